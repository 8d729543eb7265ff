/- Contracts and laws for the proof, joined by a program. No condition. -/
import Derived.Test.YtfkfohpnpljihaaGreatDoorM5
set_option linter.all false
noncomputable section
open Go Go.Conc Go.TM Go.Proofs
set_option maxRecDepth 100000
open Go.IntKind (wrap)
section
namespace Go.TM
open Go.Sort
variable {P:Program} {X:XP} {Q:Leaf->LH->Prop}
def RA(cs:Array Value)(d:Array Int):Prop:=∀ i,i<d.size->cs[i]?=some (.int .i64 d[i]!)
structure DSt(h:LH)(r:Nat)(el:TypeId)(N:Nat)(d:Array Int)(h':LH):Prop where
 keep:∀ b y,b≠r->h.get b=some y->h'.get b=some y
 rest:h'.chans=h.chans/\h'.pend=h.pend/\h'.todo=h.todo
 cells:∃ cs,h'.get r=some (true,.cells cs el (0,0))/\cs.size=N/\d.size<=N/\RA cs d
variable {h h':LH} {r N:Nat} {el:TypeId} {d:Array Int}
variable {cs:Array Value}{i:Nat}{x:Int}{k:T}
theorem DSt.cell(s:DSt h r el N d h'){i:Nat}(b:i<d.size):h'.get.cell? (Addr.add ⟨r,0,none⟩ ((i:Int).toNat*1))=some (.int .i64 d[i]!):=by
 obtain⟨cs,h1,_,_,a⟩:=s.cells;rw[Qh,Int.toNat_natCast,Nat.mul_one,Nat.zero_add];unfold Cells.cell?;rw[h1];exact a i b
theorem RA.set{d:Array Int}(h:RA cs d):RA (cs.setIfInBounds i (.int .i64 x)) (d.setIfInBounds i x):=fun k a=>by
 rw[Array.size_setIfInBounds]at a;have hc:k<cs.size:=(Array.getElem?_eq_some_iff.1 (h k a)).1;by_cases e:i=k
 ·subst e;rw[Array.getElem?_setIfInBounds_self_of_lt hc];simp[a]
 ·rw[Array.getElem?_setIfInBounds_ne e,h k a];congr 2;rw[getElem!_pos d k a,getElem!_pos (d.setIfInBounds i x) k (by simpa using a),Array.getElem_setIfInBounds_ne a e]
theorem Ji(s:DSt h r el N d h')(l:i<d.size)(f:∀ a,DSt h r el N (d.setIfInBounds i x) a->k.wp X P Q a):(T.store (Addr.add (Addr.add ⟨r,0,none⟩ ((i:Int).toNat*1)) 0) (.int .i64 x) k).wp X P Q h':=by
 obtain⟨cs,h1,h2,h3,c⟩:=s.cells;refine Zo (r:=r) (j:=i) (by rw[Qh,Qh];simp) h1 (by omega) rfl fun a t e=>f a ⟨fun b y hb g=>?_,⟨t.rest.1.trans s.rest.1,t.rest.2.1.trans s.rest.2.1,t.rest.2.2.trans s.rest.2.2⟩,_,e,by simpa using h2,by simpa using h3,c.set⟩;rw[t.keep b hb];exact s.keep b y hb g
theorem t_storeD'(s:DSt h r el N d h')(l:i<d.size)(f:∀ a,DSt h r el N (d.setIfInBounds i x) a->(∀ b,b≠r->a.get b=h'.get b)->k.wp X P Q a):(T.store (Addr.add (Addr.add ⟨r,0,none⟩ ((i:Int).toNat*1)) 0) (.int .i64 x) k).wp X P Q h':=by
 obtain⟨cs,h1,h2,h3,c⟩:=s.cells;refine Zo (r:=r) (j:=i) (by rw[Qh,Qh];simp) h1 (by omega) rfl fun a t e=>f a ⟨fun b y hb g=>?_,⟨t.rest.1.trans s.rest.1,t.rest.2.1.trans s.rest.2.1,t.rest.2.2.trans s.rest.2.2⟩,_,e,by simpa using h2,by simpa using h3,c.set⟩ t.keep;rw[t.keep b hb];exact s.keep b y hb g
theorem DSt.self(h1:h.get r=some (true,.cells cs el (0,0)))(h3:d.size<=cs.size)(a:RA cs d):DSt h r el cs.size d h:=⟨fun _ _ _ b=>b,⟨rfl,rfl,rfl⟩,cs,h1,rfl,h3,a⟩
theorem DSt.more(s:DSt h r el N d h'){b:Nat}{x:Bool×Obj}(hb:h'.get b=none):DSt h r el N d { h' with get:=h'.get.upd b x }:=by
 obtain⟨cs,h1,h2⟩:=s.cells;have ne:∀ {a:Nat} {y:Bool×Obj},h'.get a=some y->a≠b:=fun c e=>by subst e;rw[hb]at c;cases c
 refine⟨fun a y hr c=>?_,s.rest,cs,?_,h2⟩
 ·have:=s.keep a y hr c;show h'.get.upd b x a=_;rw[Qk _ _ (ne this)];exact this
 ·show h'.get.upd b x r=_;rw[Qk _ _ (ne h1)];exact h1
end Go.TM
namespace Go.Y
open Go.Sort
attribute [local irreducible] T.wp CV FWK
variable {i j:Nat}
theorem c2111{h:LH}(x y:Int):Pu Tryz.prog 199 #[x,y] h (.bool (ltInt x y)):=by
 refine w2111 Qn ?_;refine t_pu (c109 _) ?_;refine yF ?_;exact Qe ⟨rfl,rfl⟩
variable {h h1:LH} {r N c:Nat} {el:TypeId} {d:Array Int} {a b:Nat}
theorem wsucc(h:i<2^40):wrap .i64 ((i:Int)+1)=((i+1:Nat):Int):=by rw[Qj (by omega) (by omega)];rfl
theorem wpred(h:i<2^40):wrap .i64 (((i+1:Nat):Int)-1)=(i:Int):=by rw[Qj (by omega) (by omega)];omega
theorem wadd(h:i+j<2^40):wrap .i64 ((i:Int)+(j:Int))=((i+j:Nat):Int):=by rw[Qj (by omega) (by omega)];omega
theorem wsub(h1:j<=i)(h:i<2^40):wrap .i64 ((i:Int)-(j:Int))=((i-j:Nat):Int):=by rw[Qj (by omega) (by omega)];omega
theorem c2105(s:DSt h r el N d h1)(y:a<=b)(hb:b<=d.size)(K:d.size<2^30) :
  FW X0 Tryz.prog 193 #[.slice (some ⟨r,0,none⟩) d.size c,.int .i64 a,.int .i64 b] h1 fun v h'=>v=.tuple #[]/\DSt h r el N (insertionSort ltInt d a b) h':=by
 refine w2105 _ _ _ _ _ Qn ?_;unfold n2105;rw[wsucc (by omega)];refine Qq (fun g vs h'=>∃ (i:Nat) (d':Array Int),vs=[.int .i64 i]/\g=b+1-i/\a+1<=i/\i<=b+1/\DSt h r el N d' h'/\d'.size=d.size/\insOuter ltInt a b i d'=insertionSort ltInt d a b)
  ⟨a+1,d,rfl,rfl,Nat.le_refl _,by omega,s,rfl,rfl⟩ ?_
 rintro Y g vs h2 x ⟨i,d1,rfl,rfl,z,A,s1,G,k⟩;refine yJ (fun u=>?_) (fun u=>?_)
 ·have n:i<b:=by omega
  rw[insOuter,if_pos n]at k;refine J7 (fun g vs h'=>∃ (j:Nat) (d':Array Int),vs=[.int .i64 j]/\j=g/\j<=i/\DSt h r el N d' h'/\d'.size=d.size/\insInner ltInt a j d'=insInner ltInt a i d1)
   (fun vs h'=>∃ j:Nat,vs=[.int .i64 j]/\DSt h r el N (insInner ltInt a i d1) h'/\(insInner ltInt a i d1).size=d.size) ⟨i,d1,rfl,rfl,Nat.le_refl _,s1,G,rfl⟩ ?_ ?_
  ·rintro I g vs h3 m ⟨j,d2,rfl,rfl,L,s2,t,f⟩;refine gZ ?_;refine Jw (fun vs h'=>vs=[]/\h3=h'/\∃ e,j=e+1/\e+1>a/\ltInt d2[e+1]! d2[e]! = true) ?_ ?_
   ·refine t_if (fun w=>?_) (fun w=>?_)
    ·obtain⟨e,rfl⟩ : ∃ e,j=e+1:=⟨j-1,by omega⟩
     rw[wpred (by omega)];have E:=s2.cell (i:=e+1) (by omega);have F:=s2.cell (i:=e) (by omega);refine gZ ?_;refine t_pu (c2111 _ _) ?_;refine yI (fun l=>?_) (fun l=>?_)
     ·exact Qa ⟨rfl,rfl,e,rfl,by omega,l⟩
     ·rw[insInner,l,Bool.and_false,if_neg (by simp)]at f;refine yT ?_;refine gZ ?_;exact⟨_,rfl,f▸s2,f▸t⟩
    ·refine yT ?_;have q:insInner ltInt a j d2=d2:=by
      cases j with
      | zero=>rfl
      | succ j=>rw[insInner,decide_eq_false (by omega),Bool.false_and,if_neg (by simp)]
     rw[q]at f;refine gZ ?_;exact⟨_,rfl,f▸s2,f▸t⟩
   ·rintro vs _ ⟨rfl,rfl,e,rfl,o,p⟩;rw[insInner,p,decide_eq_true o,Bool.true_and,if_pos rfl]at f;rw[wpred (by omega)];have E:=s2.cell (i:=e+1) (by omega);have F:=s2.cell (i:=e) (by omega);refine gZ ?_;refine Ji s2 (i:=e+1) (by omega) fun J C=>?_;refine gZ ?_;refine Ji C (i:=e) (by simp;omega) fun h5 D=>?_;exact Qa (m e _ _ (by omega) ⟨e,swp d2 (e+1) e,rfl,rfl,by omega,D,by simp[swp,t],f⟩)
  ·rintro vs h3 ⟨j,rfl,B,H⟩;refine gZ ?_;rw[wsucc (by omega)];exact Qa (x (b+1-(i+1)) _ _ (by omega) ⟨i+1,_,rfl,rfl,by omega,by omega,B,H,k⟩)
 ·refine gZ ?_;rw[insOuter,if_neg (by omega)]at k;exact Qe ⟨rfl,k▸s1⟩
end Go.Y
end
section
namespace Go.Y
open Go.Sort
attribute [local irreducible] T.wp CV FWK
variable {h h1:LH} {r N c:Nat} {el:TypeId} {d:Array Int} {a b:Nat}
theorem Ki(d:Array Int)(i j:Nat):(swp d i j).size=d.size:=by simp[swp]
theorem c2109(s:DSt h r el N d h1)(o:a<b)(hb:b<=d.size)(w:d.size<2^30) :
  FW X0 Tryz.prog 197 #[.slice (some ⟨r,0,none⟩) d.size c,.int .i64 a,.int .i64 b] h1 fun v h'=>v=.tuple #[]/\DSt h r el N (reverseRange d a b) h':=by
 refine w2109 Qn ?_;obtain⟨b,rfl⟩ : ∃ k,b=k+1:=⟨b-1,by omega⟩
 rw[wpred (by omega)];refine Qq (fun l vs h'=>∃ (i j:Nat) (d':Array Int),vs=[.int .i64 i,.int .i64 j]/\l=j+1-i/\j<=b/\DSt h r el N d' h'/\d'.size=d.size/\reverseLoop i j d'=reverseRange d a (b+1))
  ⟨a,b,d,rfl,rfl,Nat.le_refl _,s,rfl,rfl⟩ ?_
 rintro Y l vs h2 n ⟨i,j,d1,rfl,rfl,x,s1,t,f⟩;refine yJ (fun m=>?_) (fun m=>?_)
 ·have g:i<j:=by omega
  rw[reverseLoop,if_pos g]at f;obtain⟨e,rfl⟩ : ∃ k,j=k+1:=⟨j-1,by omega⟩
  have y:=s1.cell (i:=e+1) (by omega);have z:=s1.cell (i:=i) (by omega);refine gZ ?_;refine Ji s1 (i:=i) (by omega) fun u p=>?_;refine gZ ?_;refine Ji p (i:=e+1) (by simp;omega) fun h5 q=>?_;rw[wsucc (by omega),wpred (by omega)];exact Qa (n (e+1-(i+1)) _ _ (by omega) ⟨i+1,e,swp d1 i (e+1),rfl,rfl,by omega,q,by rw[Ki];exact t,f⟩)
 ·refine gZ ?_;rw[reverseLoop,if_neg (by omega)]at f;exact Qe ⟨rfl,f▸s1⟩
theorem c2116{lo a first:Nat}(s:DSt h r el N d h1)(D:first+a<=d.size)(f:lo<2^30)(C:d.size<2^30) :
  FW X0 Tryz.prog 208 #[.slice (some ⟨r,0,none⟩) d.size c,lo,a,first] h1 fun v h'=>v=.tuple #[]/\DSt h r el N (siftDown ltInt a first lo d) h':=by
 refine w2116 Qn ?_;refine Qq (fun n vs h'=>∃ (i:Nat) (d':Array Int),vs=[.int .i64 i]/\i<2^30/\n=a-i/\DSt h r el N d' h'/\d'.size=d.size/\siftDown ltInt a first i d'=siftDown ltInt a first lo d)
  ⟨lo,d,rfl,f,rfl,s,rfl,rfl⟩ ?_
 rintro Y n vs h2 q ⟨i,d1,rfl,m,rfl,s1,A,heq⟩;have w2:wrap .i64 (2*(i:Int))=((2*i:Nat):Int):=by rw[Qj (by omega) (by omega)];omega
 have w3:wrap .i64 (((2*i:Nat):Int)+1)=((2*i+1:Nat):Int):=wsucc (by omega);refine gZ ?_;rw[w2,w3];refine t_if (fun o=>?_) (fun o=>?_)
 ·rw[siftDown,dif_pos (by omega)]at heq;refine gZ ?_;exact Qe ⟨rfl,heq▸s1⟩
 have e:¬ 2*i+1>=a:=by omega
 rw[siftDown,dif_neg e]at heq;have w4:wrap .i64 (((2*i+1:Nat):Int)+1)=((2*i+2:Nat):Int):=wsucc (by omega);refine Jw (fun vs h'=>h2=h'/\∃ ch:Nat,vs=[.int .i64 ch]/\(ch=2*i+1\/ch=2*i+2)/\ch<a/\(if (!ltInt d1[first+i]! d1[first+ch]!)=true then d1 else siftDown ltInt a first ch (swp d1 (first+i) (first+ch)))=siftDown ltInt a first lo d) ?_ ?_
 ·rw[w4];have k:wrap .i64 ((first:Int)+((2*i+1:Nat):Int))=((first+(2*i+1):Nat):Int):=wadd (by omega);rw[k];have l:wrap .i64 (((first+(2*i+1):Nat):Int)+1)=((first+(2*i+1)+1:Nat):Int):=wsucc (by omega);refine t_if (fun p=>?_) (fun p=>?_)
  ·have g:2*i+1+1<a:=by omega
   rw[l];have y:=s1.cell (i:=first+(2*i+1)) (by omega);have z:=s1.cell (i:=first+(2*i+1)+1) (by omega);refine gZ ?_;refine t_pu (c2111 _ _) ?_;refine yI (fun b=>?_) (fun b=>?_)
   ·rw[b,decide_eq_true g,Bool.true_and,if_pos rfl]at heq;refine Qa ⟨rfl,2*i+2,rfl,.inr rfl,by omega,?_⟩;rw[<- heq];split
    ·rfl
    ·first|rfl|rw[dif_pos (by omega)]
   ·rw[b,Bool.and_false,if_neg (by simp)]at heq;exact Qa ⟨rfl,2*i+1,rfl,.inl rfl,by omega,heq⟩
  ·rw[decide_eq_false (by omega),Bool.false_and,if_neg (by simp)]at heq;have fin:h2=h2/\∃ ch:Nat,[Value.int .i64 ((2*i+1:Nat):Int)]=[.int .i64 ch]/\(ch=2*i+1\/ch=2*i+2)/\ch<a/\(if (!ltInt d1[first+i]! d1[first+ch]!)=true then d1 else siftDown ltInt a first ch (swp d1 (first+i) (first+ch)))=siftDown ltInt a first lo d :=
    ⟨rfl,2*i+1,rfl,.inl rfl,by omega,heq⟩
   refine Hg ?_ ?_
   ·refine gZ ?_;exact Qa fin
   ·refine gZ ?_;refine Hg ?_ ?_
    ·refine gZ ?_;exact Qa fin
    ·refine gZ ?_;exact Qa fin
 ·rintro vs _ ⟨rfl,ch,rfl,t,u,heq⟩;refine gZ ?_;rw[wadd (i:=first) (j:=i) (by omega),wadd (i:=first) (j:=ch) (by omega)];have y:=s1.cell (i:=first+i) (by omega);have z:=s1.cell (i:=first+ch) (by omega);refine gZ ?_;refine t_pu (c2111 _ _) ?_;refine yI (fun b=>?_) (fun b=>?_)
  ·rw[if_pos b]at heq;refine gZ ?_;exact Qe ⟨rfl,heq▸s1⟩
  ·rw[if_neg (by rw[b];simp)]at heq;refine gZ ?_;refine Ji s1 (i:=first+i) (by omega) fun B w=>?_;refine gZ ?_;refine Ji w (i:=first+ch) (by simp;omega) fun h5 x=>?_;exact Qa (q (a-ch) _ _ (by omega) ⟨ch,swp d1 (first+i) (first+ch),rfl,by omega,rfl,x,by rw[Ki];exact A,heq⟩)
theorem siftDown_sz(a first:Nat):∀ (n root:Nat) (d:Array Int),a-root<=n->(siftDown ltInt a first root d).size=d.size:=by
 intro n
 induction n with
 | zero =>
  intro root d c;rw[siftDown,dif_pos (by omega)]
 | succ n b =>
  intro root d c;rw[siftDown];split
  ·rfl
  ·split
   ·split
    ·rfl
    ·split
     ·rw[b _ _ (by omega),Ki]
     ·rfl
   ·split
    ·rfl
    ·rw[b _ _ (by omega),Ki]
theorem c2106(s:DSt h r el N d h1)(n:a<b)(hb:b<=d.size)(y:d.size<2^30) :
  FW X0 Tryz.prog 194 #[.slice (some ⟨r,0,none⟩) d.size c,.int .i64 a,.int .i64 b] h1 fun v h'=>v=.tuple #[]/\DSt h r el N (heapSort ltInt d a b) h':=by
 refine w2106 Qn ?_;have w1:wrap .i64 ((b:Int)-(a:Int))=((b-a:Nat):Int):=wsub (by omega) (by omega);have w2:wrap .i64 (((b-a:Nat):Int)-1)=((b-a-1:Nat):Int):=by rw[Qj (by omega) (by omega)];omega
 have w3:wrap .i64 (Int.tdiv ((b-a-1:Nat):Int) 2)=(((b-a-1) / 2:Nat):Int):=by
  have:Int.tdiv ((b-a-1:Nat):Int) 2=(((b-a-1) / 2:Nat):Int):=by
   rw[Int.tdiv_eq_ediv_of_nonneg (by omega)];omega
  rw[this,Qj (by omega) (by omega)]
 rw[w1,w2,w3];refine gT (by omega) ?_;refine J7 (fun f vs h'=>∃ (k:Nat) (d':Array Int),vs=[.int .i64 ((k:Int)-1)]/\k=f/\k<=b/\DSt h r el N d' h'/\d'.size=d.size/\heapBuild ltInt (b-a) a k d'=heapBuild ltInt (b-a) a ((b-a-1) / 2+1) d)
  (fun vs h'=>∃ k:Int,vs=[.int .i64 k]/\DSt h r el N (heapBuild ltInt (b-a) a ((b-a-1) / 2+1) d) h'/\(heapBuild ltInt (b-a) a ((b-a-1) / 2+1) d).size=d.size)
  ⟨(b-a-1) / 2+1,d,by congr 2;omega,rfl,by omega,s,rfl,rfl⟩ ?_ ?_
 ·rintro Y f vs h2 l ⟨k,d1,rfl,rfl,o,s1,e,heq⟩;refine yJ (fun g=>?_) (fun g=>?_)
  ·obtain⟨k,rfl⟩ : ∃ k',k=k'+1:=⟨k-1,by omega⟩
   rw[show (((k+1:Nat):Int)-1)=(k:Int) by omega,<- e];refine Qz (c2116 s1 (by omega) (by omega) (by omega)) ?_;rintro _ h3 ⟨rfl,p⟩;refine gZ ?_;rw[show wrap .i64 ((k:Int)-1)=(k:Int)-1 from Qj (by omega) (by omega)];exact Qa (l k _ _ (by omega) ⟨k,_,rfl,rfl,by omega,p,by rw[siftDown_sz _ _ _ _ _ (Nat.le_refl _)];exact e,heq⟩)
  ·refine gZ ?_;have:k=0:=by omega
   subst this;exact⟨_,rfl,(show d1=_ from heq)▸s1,(show d1=_ from heq)▸e⟩
 rintro vs h2 ⟨z,rfl,s2,u⟩;have heap:heapSort ltInt d a b=heapPop ltInt a (b-a) (heapBuild ltInt (b-a) a ((b-a-1) / 2+1) d):=rfl;rw[heap];generalize heapBuild ltInt (b-a) a ((b-a-1) / 2+1) d=d2 at *;refine gZ ?_;refine Qq (fun f vs h'=>∃ (k:Nat) (d':Array Int),vs=[.int .i64 ((k:Int)-1)]/\k=f/\k<=b-a/\DSt h r el N d' h'/\d'.size=d.size/\heapPop ltInt a k d'=heapPop ltInt a (b-a) d2)
  ⟨b-a,d2,by congr 2;omega,rfl,Nat.le_refl _,s2,u,rfl⟩ ?_
 rintro Y f vs h3 l ⟨k,d1,rfl,rfl,o,s1,e,heq⟩;refine yJ (fun g=>?_) (fun g=>?_)
 ·obtain⟨k,rfl⟩ : ∃ k',k=k'+1:=⟨k-1,by omega⟩
  rw[show (((k+1:Nat):Int)-1)=(k:Int) by omega,wadd (i:=a) (j:=k) (by omega)];have A:=s1.cell (i:=a+k) (by omega);have B:=s1.cell (i:=a) (by omega);refine gZ ?_;refine Ji s1 (i:=a) (by omega) fun w q=>?_;refine gZ ?_;refine Ji q (i:=a+k) (by simp;omega) fun h5 t=>?_;have m:DSt h r el N (swp d1 a (a+k)) h5:=t;rw[<- e,<- Ki d1 a (a+k)];refine Qz (c2116 (lo:=0) m (by rw[Ki];omega) (by omega) (by rw[Ki];omega)) ?_;rintro _ x ⟨rfl,s6⟩;refine gZ ?_;rw[show wrap .i64 ((k:Int)-1)=(k:Int)-1 from Qj (by omega) (by omega)];exact Qa (l k _ _ (by omega) ⟨k,_,rfl,rfl,by omega,s6,by rw[siftDown_sz _ _ _ _ _ (Nat.le_refl _),Ki];exact e,heq⟩)
 ·refine gZ ?_;have:k=0:=by omega
  subst this;exact Qe ⟨rfl,(show d1=_ from heq)▸s1⟩
end Go.Y
end
section
namespace Go.Sort
variable {p:Int->Bool} {d:Array Int} {i j:Nat}
theorem up_go(h1:i<=j)(h2:p d[i]! = true):scanUp p d j i=scanUp p d j (i+1):=by rw[scanUp,h2,decide_eq_true h1];rfl
theorem Hc(h:¬ (i<=j/\p d[i]! = true)):scanUp p d j i=i:=by
 rw[scanUp,if_neg];simpa using h
theorem Y5(h1:i<=j+1)(h2:p d[j+1]! = true):scanDown p d i (j+1)=scanDown p d i j:=by rw[scanDown,h2,decide_eq_true h1];rfl
theorem Kd(a:1<=i)(h:¬ (i<=j/\p d[j]! = true)):scanDown p d i j=j:=by
 cases j with
 | zero=>rfl
 | succ j =>
  rw[scanDown,if_neg];simpa using h
theorem Yd(h:i<=j+1):i<=scanUp p d j i/\scanUp p d j i<=j+1:=by
 have:=scanUp_spec p d j _ i rfl;exact⟨this.1,by omega⟩
theorem up_bound':i<=scanUp p d j i/\(scanUp p d j i<=j+1\/scanUp p d j i=i):=by
 by_cases h:i<=j+1
 ·exact⟨(Yd h).1,.inl (Yd h).2⟩
 ·exact⟨scanUp_ge _ _ _ _,.inr (Hc fun a=>by omega)⟩
end Go.Sort
namespace Go.Y
open Go.Sort
attribute [local irreducible] T.wp CV FWK
variable {h h1:LH} {r N c:Nat} {el:TypeId} {d:Array Int} {a b:Nat}
variable {pivot:Nat}
theorem c2113(s:DSt h r el N d h1)(hp:a<=pivot/\pivot<b)(hb:b<=d.size)(M:d.size<2^30) :
  FW X0 Tryz.prog 201 #[.slice (some ⟨r,0,none⟩) d.size c,.int .i64 a,.int .i64 b,pivot] h1 fun v h'=>v=.tuple #[.int .i64 ((partition ltInt d a b pivot).1:Nat),.bool (partition ltInt d a b pivot).2.1]/\DSt h r el N (partition ltInt d a b pivot).2.2 h':=by
 refine w2113 Qn ?_;have o:=s.cell (i:=pivot) (by omega);have q:=s.cell (i:=a) (by omega);refine gZ ?_;refine Ji s (i:=a) (by omega) fun g1 V=>?_;refine gZ ?_;refine Ji V (i:=pivot) (by rw[Array.size_setIfInBounds];omega) fun k1 O=>?_;have A:DSt h r el N (swp d a pivot) k1:=O;clear O V o q;obtain⟨e,rfl⟩ : ∃ k,b=k+1:=⟨b-1,by omega⟩
 have part:partition ltInt d a (e+1) pivot=(if scanUp (fun x=>ltInt x (swp d a pivot)[a]!) (swp d a pivot) e (a+1)>scanDown (fun x=>!ltInt x (swp d a pivot)[a]!) (swp d a pivot) (scanUp (fun x=>ltInt x (swp d a pivot)[a]!) (swp d a pivot) e (a+1)) e then (scanDown (fun x=>!ltInt x (swp d a pivot)[a]!) (swp d a pivot) (scanUp (fun x=>ltInt x (swp d a pivot)[a]!) (swp d a pivot) e (a+1)) e,true,swp (swp d a pivot) (scanDown (fun x=>!ltInt x (swp d a pivot)[a]!) (swp d a pivot) (scanUp (fun x=>ltInt x (swp d a pivot)[a]!) (swp d a pivot) e (a+1)) e) a) else
  ((partLoop ltInt a (scanUp (fun x=>ltInt x (swp d a pivot)[a]!) (swp d a pivot) e (a+1)+1) (scanDown (fun x=>!ltInt x (swp d a pivot)[a]!) (swp d a pivot) (scanUp (fun x=>ltInt x (swp d a pivot)[a]!) (swp d a pivot) e (a+1)) e-1) (swp (swp d a pivot) (scanUp (fun x=>ltInt x (swp d a pivot)[a]!) (swp d a pivot) e (a+1)) (scanDown (fun x=>!ltInt x (swp d a pivot)[a]!) (swp d a pivot) (scanUp (fun x=>ltInt x (swp d a pivot)[a]!) (swp d a pivot) e (a+1)) e))).1,false,
   swp (partLoop ltInt a (scanUp (fun x=>ltInt x (swp d a pivot)[a]!) (swp d a pivot) e (a+1)+1) (scanDown (fun x=>!ltInt x (swp d a pivot)[a]!) (swp d a pivot) (scanUp (fun x=>ltInt x (swp d a pivot)[a]!) (swp d a pivot) e (a+1)) e-1) (swp (swp d a pivot) (scanUp (fun x=>ltInt x (swp d a pivot)[a]!) (swp d a pivot) e (a+1)) (scanDown (fun x=>!ltInt x (swp d a pivot)[a]!) (swp d a pivot) (scanUp (fun x=>ltInt x (swp d a pivot)[a]!) (swp d a pivot) e (a+1)) e))).2 (partLoop ltInt a (scanUp (fun x=>ltInt x (swp d a pivot)[a]!) (swp d a pivot) e (a+1)+1) (scanDown (fun x=>!ltInt x (swp d a pivot)[a]!) (swp d a pivot) (scanUp (fun x=>ltInt x (swp d a pivot)[a]!) (swp d a pivot) e (a+1)) e-1) (swp (swp d a pivot) (scanUp (fun x=>ltInt x (swp d a pivot)[a]!) (swp d a pivot) e (a+1)) (scanDown (fun x=>!ltInt x (swp d a pivot)[a]!) (swp d a pivot) (scanUp (fun x=>ltInt x (swp d a pivot)[a]!) (swp d a pivot) e (a+1)) e))).1 a)):=rfl
 rw[part];have z1:=Ki d a pivot;generalize hD:swp d a pivot=D at *;rw[<- z1]at hb M ⊢;clear s hD part;rw[wpred (by omega),wsucc (by omega)];refine J7 (fun n vs h'=>∃ i:Nat,vs=[.int .i64 i]/\n=e+1-i/\(a+1)<=i/\i<=e+2/\k1=h'/\scanUp (fun x=>ltInt x D[a]!) D e i=scanUp (fun x=>ltInt x D[a]!) D e (a+1))
  (fun vs h'=>k1=h'/\vs=[.int .i64 ((scanUp (fun x=>ltInt x D[a]!) D e (a+1):Nat):Int)]) ⟨(a+1),rfl,rfl,Nat.le_refl _,by omega,rfl,rfl⟩ ?_ ?_
 ·rintro F n vs _ l ⟨i,rfl,rfl,H,K,rfl,m⟩;refine yJ (fun w=>?_) (fun w=>?_)
  ·have o:=A.cell (i:=i) (by omega);have q:=A.cell (i:=a) (by omega);refine gZ ?_;refine t_pu (c2111 _ _) ?_;refine yI (fun g=>?_) (fun g=>?_)
   ·refine gZ ?_;rw[wsucc (by omega)];exact Qa (l (e+1-(i+1)) _ _ (by omega) ⟨i+1,rfl,rfl,by omega,by omega,rfl,(up_go (p:=(fun x=>ltInt x D[a]!)) (d:=D) (i:=i) (j:=e) (by omega) g).symm.trans m⟩)
   ·refine gZ ?_;exact⟨rfl,by rw[<- m,Hc (p:=(fun x=>ltInt x D[a]!)) (d:=D) (i:=i) (j:=e) fun u=>absurd (Eq.trans g.symm u.2) (by simp)]⟩
  ·refine gZ ?_;exact⟨rfl,by rw[<- m,Hc (p:=(fun x=>ltInt x D[a]!)) (d:=D) (i:=i) (j:=e) fun u=>w (by omega)]⟩
 rintro vs _ ⟨rfl,rfl⟩;obtain⟨u1,u2⟩:=Yd (p:=(fun x=>ltInt x D[a]!)) (d:=D) (i:=a+1) (j:=e) (by omega);generalize hI:scanUp (fun x=>ltInt x D[a]!) D e (a+1)=I at *;refine gZ ?_;refine J7 (fun n vs h'=>∃ j:Nat,vs=[.int .i64 j]/\j=n/\j<=e/\k1=h'/\scanDown (fun x=>!ltInt x D[a]!) D I j=scanDown (fun x=>!ltInt x D[a]!) D I e)
  (fun vs h'=>k1=h'/\vs=[.int .i64 ((scanDown (fun x=>!ltInt x D[a]!) D I e:Nat):Int)]) ⟨e,rfl,rfl,Nat.le_refl _,rfl,rfl⟩ ?_ ?_
 ·rintro F n vs _ l ⟨j,rfl,rfl,L,rfl,m⟩;refine yJ (fun w=>?_) (fun w=>?_)
  ·obtain⟨j,rfl⟩ : ∃ k,j=k+1:=⟨j-1,by omega⟩
   have o:=A.cell (i:=j+1) (by omega);have q:=A.cell (i:=a) (by omega);refine gZ ?_;refine t_pu (c2111 _ _) ?_;refine yI (fun g=>?_) (fun g=>?_)
   ·refine gZ ?_;rw[wpred (by omega)];exact Qa (l j _ _ (by omega) ⟨j,rfl,rfl,by omega,rfl,(Y5 (p:=(fun x=>!ltInt x D[a]!)) (d:=D) (i:=I) (j:=j) (by omega) g).symm.trans m⟩)
   ·refine gZ ?_;exact⟨rfl,by rw[<- m,Kd (p:=(fun x=>!ltInt x D[a]!)) (d:=D) (i:=I) (j:=j+1) (by omega) fun u=>absurd (Eq.trans g.symm u.2) (by simp)]⟩
  ·refine gZ ?_;exact⟨rfl,by rw[<- m,Kd (p:=(fun x=>!ltInt x D[a]!)) (d:=D) (i:=I) (j:=j) (by omega) fun u=>w (by omega)]⟩
 rintro vs _ ⟨rfl,rfl⟩;have v1:=scanDown_le (fun x=>!ltInt x D[a]!) D I e;have v2:=(scanDown_spec (fun x=>!ltInt x D[a]!) D I e).2.1 u2;generalize hJ:scanDown (fun x=>!ltInt x D[a]!) D I e=J at *;refine yJ (fun G=>?_) (fun G=>?_)
 ·rw[if_pos (show I>J by omega)];have o:=A.cell (i:=a) (by omega);have q:=A.cell (i:=J) (by omega);refine gZ ?_;refine Ji A (i:=J) (by omega) fun g2 W=>?_;refine gZ ?_;refine Ji W (i:=a) (by rw[Array.size_setIfInBounds];omega) fun k2 P=>?_;have Q2:DSt h r el N (swp D J a) k2:=P;clear P W o q;exact Qe ⟨rfl,Q2⟩
 rw[if_neg (show ¬ I>J by omega)];have o:=A.cell (i:=J) (by omega);have q:=A.cell (i:=I) (by omega);refine gZ ?_;refine Ji A (i:=I) (by omega) fun g3 X=>?_;refine gZ ?_;refine Ji X (i:=J) (by rw[Array.size_setIfInBounds];omega) fun k3 Q=>?_;have Q3:DSt h r el N (swp D I J) k3:=Q;clear Q X o q;have z3:=Ki D I J;generalize a0:swp D I J=C at *;rw[<- z3]at hb M ⊢;obtain⟨J,rfl⟩ : ∃ k,J=k+1:=⟨J-1,by omega⟩
 rw[wpred (by omega),wsucc (by omega),show J+1-1=J from rfl];generalize hR:partLoop ltInt a (I+1) J C=R;refine J7 (fun n vs h'=>∃ (i j:Nat) (d':Array Int),vs=[.int .i64 i,.int .i64 j]/\n=j+1-i/\a<i/\i<=j+2/\a<=j/\j<=e/\DSt h r el N d' h'/\d'.size=C.size/\partLoop ltInt a i j d'=R)
  (fun vs h'=>∃ (i:Int),vs=[.int .i64 i,.int .i64 (R.1:Nat)]/\a<=R.1/\R.1<=e/\DSt h r el N R.2 h'/\R.2.size=C.size) ⟨I+1,J,C,rfl,rfl,by omega,by omega,by omega,by omega,Q3,rfl,hR⟩ ?_ ?_
 ·rintro Y n vs E hY ⟨i,j,d4,rfl,rfl,k0,m0,l0,o0,B,z4,y⟩;rw[partLoop_eq]at y;refine gZ ?_;refine J7 (fun n vs h'=>∃ t:Nat,vs=[.int .i64 t]/\n=j+1-t/\i<=t/\t<=j+2/\E=h'/\scanUp (fun x=>ltInt x d4[a]!) d4 j t=scanUp (fun x=>ltInt x d4[a]!) d4 j i)
   (fun vs h'=>E=h'/\vs=[.int .i64 ((scanUp (fun x=>ltInt x d4[a]!) d4 j i:Nat):Int)]) ⟨i,rfl,rfl,Nat.le_refl _,by omega,rfl,rfl⟩ ?_ ?_
  ·rintro F n vs _ l ⟨t,rfl,rfl,H,K,rfl,m⟩;refine yJ (fun w=>?_) (fun w=>?_)
   ·have o:=B.cell (i:=t) (by omega);have q:=B.cell (i:=a) (by omega);refine gZ ?_;refine t_pu (c2111 _ _) ?_;refine yI (fun g=>?_) (fun g=>?_)
    ·refine gZ ?_;rw[wsucc (by omega)];exact Qa (l (j+1-(t+1)) _ _ (by omega) ⟨t+1,rfl,rfl,by omega,by omega,rfl,(up_go (p:=(fun x=>ltInt x d4[a]!)) (d:=d4) (i:=t) (j:=j) (by omega) g).symm.trans m⟩)
    ·refine gZ ?_;exact⟨rfl,by rw[<- m,Hc (p:=(fun x=>ltInt x d4[a]!)) (d:=d4) (i:=t) (j:=j) fun u=>absurd (Eq.trans g.symm u.2) (by simp)]⟩
   ·refine gZ ?_;exact⟨rfl,by rw[<- m,Hc (p:=(fun x=>ltInt x d4[a]!)) (d:=d4) (i:=t) (j:=j) fun u=>w (by omega)]⟩
  rintro vs _ ⟨rfl,rfl⟩;obtain⟨u1,u2⟩:=up_bound' (p:=(fun x=>ltInt x d4[a]!)) (d:=d4) (i:=i) (j:=j);generalize hI:scanUp (fun x=>ltInt x d4[a]!) d4 j i=f at *;refine gZ ?_;refine J7 (fun n vs h'=>∃ t:Nat,vs=[.int .i64 t]/\t=n/\t<=j/\E=h'/\scanDown (fun x=>!ltInt x d4[a]!) d4 f t=scanDown (fun x=>!ltInt x d4[a]!) d4 f j)
   (fun vs h'=>E=h'/\vs=[.int .i64 ((scanDown (fun x=>!ltInt x d4[a]!) d4 f j:Nat):Int)]) ⟨j,rfl,rfl,Nat.le_refl _,rfl,rfl⟩ ?_ ?_
  ·rintro F n vs _ l ⟨t,rfl,rfl,L,rfl,m⟩;refine yJ (fun w=>?_) (fun w=>?_)
   ·obtain⟨t,rfl⟩ : ∃ k,t=k+1:=⟨t-1,by omega⟩
    have o:=B.cell (i:=t+1) (by omega);have q:=B.cell (i:=a) (by omega);refine gZ ?_;refine t_pu (c2111 _ _) ?_;refine yI (fun g=>?_) (fun g=>?_)
    ·refine gZ ?_;rw[wpred (by omega)];exact Qa (l t _ _ (by omega) ⟨t,rfl,rfl,by omega,rfl,(Y5 (p:=(fun x=>!ltInt x d4[a]!)) (d:=d4) (i:=f) (j:=t) (by omega) g).symm.trans m⟩)
    ·refine gZ ?_;exact⟨rfl,by rw[<- m,Kd (p:=(fun x=>!ltInt x d4[a]!)) (d:=d4) (i:=f) (j:=t+1) (by omega) fun u=>absurd (Eq.trans g.symm u.2) (by simp)]⟩
   ·refine gZ ?_;exact⟨rfl,by rw[<- m,Kd (p:=(fun x=>!ltInt x d4[a]!)) (d:=d4) (i:=f) (j:=t) (by omega) fun u=>w (by omega)]⟩
  rintro vs _ ⟨rfl,rfl⟩;have v1:=scanDown_le (fun x=>!ltInt x d4[a]!) d4 f j;have v2:=(scanDown_spec (fun x=>!ltInt x d4[a]!) d4 f j).2.1;have v3:j<f->scanDown (fun x=>!ltInt x d4[a]!) d4 f j=j:=fun q0=>Kd (by omega) fun u=>by omega
  generalize hJ:scanDown (fun x=>!ltInt x d4[a]!) d4 f j=z at *;refine yJ (fun G=>?_) (fun G=>?_)
  ·rw[if_pos (show f>z by omega)]at y;refine gZ ?_;subst y;exact⟨_,rfl,by simp only[];omega,by simp only[];omega,B,z4⟩
  ·rw[if_neg (show ¬ f>z by omega)]at y;have o:=B.cell (i:=z) (by omega);have q:=B.cell (i:=f) (by omega);refine gZ ?_;refine Ji B (i:=f) (by omega) fun g5 Z=>?_;refine gZ ?_;refine Ji Z (i:=z) (by rw[Array.size_setIfInBounds];omega) fun k5 S=>?_;have Q5:DSt h r el N (swp d4 f z) k5:=S;clear S Z o q;obtain⟨z,rfl⟩ : ∃ k,z=k+1:=⟨z-1,by omega⟩
   rw[wpred (by omega),wsucc (by omega)];exact Qa (hY (z+1-(f+1)) _ _ (by omega) ⟨f+1,z,_,rfl,rfl,by omega,by omega,by omega,by omega,Q5,by rw[Ki];exact z4,y⟩)
 rintro vs g6 ⟨i,rfl,e0,j0,s6,z6⟩;refine gZ ?_;have o:=s6.cell (i:=a) (by omega);have q:=s6.cell (i:=R.1) (by omega);refine gZ ?_;refine Ji s6 (i:=R.1) (by omega) fun g7 r7=>?_;refine gZ ?_;refine Ji r7 (i:=a) (by rw[Array.size_setIfInBounds];omega) fun k7 U=>?_;have Q7:DSt h r el N (swp R.2 R.1 a) k7:=U;clear U r7 o q;exact Qe ⟨rfl,Q7⟩
theorem c2112(s:DSt h r el N d h1)(hp:a<=pivot/\pivot<b)(hb:b<=d.size)(M:d.size<2^30) :
  FW X0 Tryz.prog 200 #[.slice (some ⟨r,0,none⟩) d.size c,.int .i64 a,.int .i64 b,pivot] h1 fun v h'=>v=.int .i64 ((partitionEqual ltInt d a b pivot).1:Nat)/\DSt h r el N (partitionEqual ltInt d a b pivot).2 h':=by
 refine w2112 Qn ?_;have z:=s.cell (i:=pivot) (by omega);have A:=s.cell (i:=a) (by omega);refine gZ ?_;refine Ji s (i:=a) (by omega) fun g1 F=>?_;refine gZ ?_;refine Ji F (i:=pivot) (by rw[Array.size_setIfInBounds];omega) fun k1 C=>?_;have H:DSt h r el N (swp d a pivot) k1:=C;clear C F z A;obtain⟨e,rfl⟩ : ∃ k,b=k+1:=⟨b-1,by omega⟩
 have part:partitionEqual ltInt d a (e+1) pivot=partEqLoop ltInt a (a+1) e (swp d a pivot):=rfl;rw[part];have z1:=Ki d a pivot;generalize L:swp d a pivot=D at *;rw[<- z1]at hb M ⊢;clear s L part;rw[wpred (by omega),wsucc (by omega)];generalize O:partEqLoop ltInt a (a+1) e D=R;refine J7 (fun m vs h'=>∃ (i j:Nat) (d':Array Int),vs=[.int .i64 i,.int .i64 j]/\m=j+1-i/\a<i/\i<=j+2/\a<=j/\j<=e/\DSt h r el N d' h'/\d'.size=D.size/\partEqLoop ltInt a i j d'=R)
  (fun vs h'=>∃ (j:Int),vs=[.int .i64 (R.1:Nat),.int .i64 j]/\DSt h r el N R.2 h') ⟨a+1,e,D,rfl,rfl,by omega,by omega,by omega,by omega,H,rfl,O⟩ ?_ ?_
 ·rintro Y m vs B P ⟨i,j,d4,rfl,rfl,Q,W,S,Z,n,z4,g⟩;rw[partEqLoop_eq]at g;refine gZ ?_;refine J7 (fun m vs h'=>∃ t:Nat,vs=[.int .i64 t]/\m=j+1-t/\i<=t/\t<=j+2/\B=h'/\scanUp (fun x=>!ltInt d4[a]! x) d4 j t=scanUp (fun x=>!ltInt d4[a]! x) d4 j i)
   (fun vs h'=>B=h'/\vs=[.int .i64 ((scanUp (fun x=>!ltInt d4[a]! x) d4 j i:Nat):Int)]) ⟨i,rfl,rfl,Nat.le_refl _,by omega,rfl,rfl⟩ ?_ ?_
  ·rintro J m vs _ q ⟨t,rfl,rfl,U,V,rfl,u⟩;refine yJ (fun y=>?_) (fun y=>?_)
   ·have z:=n.cell (i:=t) (by omega);have A:=n.cell (i:=a) (by omega);refine gZ ?_;refine t_pu (c2111 _ _) ?_;refine yI (fun o=>?_) (fun o=>?_)
    ·refine gZ ?_;rw[wsucc (by omega)];exact Qa (q (j+1-(t+1)) _ _ (by omega) ⟨t+1,rfl,rfl,by omega,by omega,rfl,(up_go (p:=(fun x=>!ltInt d4[a]! x)) (d:=d4) (i:=t) (j:=j) (by omega) o).symm.trans u⟩)
    ·refine gZ ?_;exact⟨rfl,by rw[<- u,Hc (p:=(fun x=>!ltInt d4[a]! x)) (d:=d4) (i:=t) (j:=j) fun w=>absurd (Eq.trans o.symm w.2) (by simp)]⟩
   ·refine gZ ?_;exact⟨rfl,by rw[<- u,Hc (p:=(fun x=>!ltInt d4[a]! x)) (d:=d4) (i:=t) (j:=j) fun w=>y (by omega)]⟩
  rintro vs _ ⟨rfl,rfl⟩;obtain⟨u1,u2⟩:=up_bound' (p:=(fun x=>!ltInt d4[a]! x)) (d:=d4) (i:=i) (j:=j);generalize hI:scanUp (fun x=>!ltInt d4[a]! x) d4 j i=f at *;refine gZ ?_;refine J7 (fun m vs h'=>∃ t:Nat,vs=[.int .i64 t]/\t=m/\t<=j/\B=h'/\scanDown (fun x=>ltInt d4[a]! x) d4 f t=scanDown (fun x=>ltInt d4[a]! x) d4 f j)
   (fun vs h'=>B=h'/\vs=[.int .i64 ((scanDown (fun x=>ltInt d4[a]! x) d4 f j:Nat):Int)]) ⟨j,rfl,rfl,Nat.le_refl _,rfl,rfl⟩ ?_ ?_
  ·rintro J m vs _ q ⟨t,rfl,rfl,X,rfl,u⟩;refine yJ (fun y=>?_) (fun y=>?_)
   ·obtain⟨t,rfl⟩ : ∃ k,t=k+1:=⟨t-1,by omega⟩
    have z:=n.cell (i:=t+1) (by omega);have A:=n.cell (i:=a) (by omega);refine gZ ?_;refine t_pu (c2111 _ _) ?_;refine yI (fun o=>?_) (fun o=>?_)
    ·refine gZ ?_;rw[wpred (by omega)];exact Qa (q t _ _ (by omega) ⟨t,rfl,rfl,by omega,rfl,(Y5 (p:=(fun x=>ltInt d4[a]! x)) (d:=d4) (i:=f) (j:=t) (by omega) o).symm.trans u⟩)
    ·refine gZ ?_;exact⟨rfl,by rw[<- u,Kd (p:=(fun x=>ltInt d4[a]! x)) (d:=d4) (i:=f) (j:=t+1) (by omega) fun w=>absurd (Eq.trans o.symm w.2) (by simp)]⟩
   ·refine gZ ?_;exact⟨rfl,by rw[<- u,Kd (p:=(fun x=>ltInt d4[a]! x)) (d:=d4) (i:=f) (j:=t) (by omega) fun w=>y (by omega)]⟩
  rintro vs _ ⟨rfl,rfl⟩;have v1:=scanDown_le (fun x=>ltInt d4[a]! x) d4 f j;have v2:=(scanDown_spec (fun x=>ltInt d4[a]! x) d4 f j).2.1;have v3:j<f->scanDown (fun x=>ltInt d4[a]! x) d4 f j=j:=fun a0=>Kd (by omega) fun w=>by omega
  generalize hJ:scanDown (fun x=>ltInt d4[a]! x) d4 f j=l at *;refine yJ (fun K=>?_) (fun K=>?_)
  ·rw[if_pos (show f>l by omega)]at g;refine gZ ?_;subst g;exact⟨_,rfl,n⟩
  ·rw[if_neg (show ¬ f>l by omega)]at g;have z:=n.cell (i:=l) (by omega);have A:=n.cell (i:=f) (by omega);refine gZ ?_;refine Ji n (i:=f) (by omega) fun g5 G=>?_;refine gZ ?_;refine Ji G (i:=l) (by rw[Array.size_setIfInBounds];omega) fun k5 E=>?_;have I:DSt h r el N (swp d4 f l) k5:=E;clear E G z A;obtain⟨l,rfl⟩ : ∃ k,l=k+1:=⟨l-1,by omega⟩
   rw[wpred (by omega),wsucc (by omega)];exact Qa (P (l+1-(f+1)) _ _ (by omega) ⟨f+1,l,_,rfl,rfl,by omega,by omega,by omega,by omega,I,by rw[Ki];exact z4,g⟩)
 rintro vs g6 ⟨j,rfl,s6⟩;refine gZ ?_;exact Qe ⟨rfl,s6⟩
theorem scanS_bound(b:Nat)(d:Array Int):∀ (n i:Nat),b-i<=n->i<=b->i<=scanSorted ltInt d b i/\scanSorted ltInt d b i<=b:=by
 intro n
 induction n with
 | zero =>
  intro i h1 h2;rw[scanSorted,decide_eq_false (by omega),Bool.false_and,if_neg (by simp)];omega
 | succ n a =>
  intro i h1 h2;rw[scanSorted];split
  ·rename_i hc;simp only[Bool.and_eq_true,decide_eq_true_eq]at hc;have:=a (i+1) (by omega) (by omega);omega
  ·omega
theorem c2110(s:DSt h r el N d h1)(u:a<b)(hb:b<=d.size)(t:b<50)(A:d.size<2^30) :
  FW X0 Tryz.prog 198 #[.slice (some ⟨r,0,none⟩) d.size c,.int .i64 a,.int .i64 b] h1 fun v h'=>v=.bool (partialInsertionSort ltInt d a b).2/\DSt h r el N (partialInsertionSort ltInt d a b).1 h':=by
 refine w2110 Qn ?_;have o:partialInsertionSort ltInt d a b=if scanSorted ltInt d b (a+1)=b then (d,true) else (d,false):=by
  unfold partialInsertionSort;rw[partialIns];simp only[];rw[if_pos (show b-a<50 by omega)]
 rw[o];rw[wsucc (by omega)];refine Qq (fun l vs h'=>l=0/\vs=[.bool false,.int .i64 ((a+1:Nat):Int),.int .i64 0]/\h1=h') ⟨rfl,rfl,rfl⟩ ?_;rintro Y l vs _ B ⟨rfl,rfl,rfl⟩;refine gZ ?_;refine t_if (fun _=>?_) (fun e=>absurd e (by omega));refine J7 (fun l vs h'=>∃ i:Nat,vs=[.int .i64 i]/\l=b-i/\a+1<=i/\i<=b/\h1=h'/\scanSorted ltInt d b i=scanSorted ltInt d b (a+1))
  (fun vs h'=>h1=h'/\vs=[.int .i64 ((scanSorted ltInt d b (a+1):Nat):Int)]) ⟨a+1,rfl,rfl,Nat.le_refl _,by omega,rfl,rfl⟩ ?_ ?_
 ·rintro z l vs _ n ⟨i,rfl,rfl,x,y,rfl,f⟩;refine yJ (fun q=>?_) (fun q=>?_)
  ·obtain⟨i,rfl⟩ : ∃ k,i=k+1:=⟨i-1,by omega⟩
   have C:=s.cell (i:=i+1) (by omega);have D:=s.cell (i:=i) (by omega);rw[wpred (by omega)];have g:scanSorted ltInt d b (i+1)=if (decide (i+1<b)&&!ltInt d[i+1]! d[i]!)=true then scanSorted ltInt d b (i+1+1) else i+1:=by rw[scanSorted];rfl
   rw[g]at f;refine gZ ?_;refine t_pu (c2111 _ _) ?_;refine yI (fun m=>?_) (fun m=>?_)
   ·refine gZ ?_;rw[m,decide_eq_true (by omega),Bool.true_and,if_pos rfl]at f;rw[wsucc (by omega)];exact Qa (n (b-(i+1+1)) _ _ (by omega) ⟨i+1+1,rfl,rfl,by omega,by omega,rfl,f⟩)
   ·refine gZ ?_;rw[m,Bool.and_false,if_neg (by simp)]at f;exact⟨rfl,by rw[<- f]⟩
  ·refine gZ ?_;have g:scanSorted ltInt d b i=i:=by rw[scanSorted,decide_eq_false (by omega),Bool.false_and,if_neg (by simp)]
   rw[g]at f;exact⟨rfl,by rw[<- f]⟩
 rintro vs _ ⟨rfl,rfl⟩;have w:=scanS_bound b d _ (a+1) (Nat.le_refl _) (by omega);generalize scanSorted ltInt d b (a+1)=S at *;refine yI (fun e=>?_) (fun e=>?_)
 ·refine gZ ?_;rw[if_pos (by have:=of_decide_eq_true (p:=(S:Int)=b) (by simpa using e);omega)];exact Qe ⟨rfl,s⟩
 ·rw[wsub (i:=b) (j:=a) (by omega) (by omega)];refine t_if (fun _=>?_) (fun e=>absurd e (by omega));refine gZ ?_;rw[if_neg (by rintro rfl;simp at e)];exact Qe ⟨rfl,s⟩
end Go.Y
end
section
namespace Go.TM
open Go.Sort
variable {P:Program} {X:XP} {Q:Leaf->LH->Prop}
variable {s:ByteArray}{i x y:Nat}
theorem t_indexStrE{h:LH}{K:Value->T}{t:TypeId}{b:Nat}(hu:P.underlying t=some .string)(e:s.size=256)(d:i<256)(hv:(s.data[i]?).map UInt8.toNat=some b)(c:(K (.int .u8 (b:Int))).wp X P Q h):(T.sem false (Instr.index t (.string s) (.int .u8 (i:Int))) K).wp X P Q h:=by
 refine J3 (A:=fun w h'=>h'=h.get/\w=.int .u8 (b:Int)) ?_ (by rintro w h' ⟨rfl,rfl⟩;exact c);unfold Instr.index;simp only[asIntOf,lwp_bind,Ql,Qg hu];have h1:s[(i:Int).toNat]?=some (s[i]'(by omega)):=by
  rw[Int.toNat_natCast];exact getElem?_pos s i (by omega)
 have a:i<s.data.size:=by have:s.data.size=s.size:=rfl;omega
 rw[Array.getElem?_eq_getElem a]at hv;simp only[Option.map_some,Option.some.injEq]at hv;rw[if_pos (by omega),h1];refine⟨rfl,?_⟩;rw[<- hv];rfl
theorem tab_of(h:((List.range 64).all fun i=>(s.data[i]?).map UInt8.toNat==some (bitsLen i))=true)(a:i<64):(s.data[i]?).map UInt8.toNat=some (bitsLen i) :=
 eq_of_beq (List.all_eq_true.1 h i (List.mem_range.2 a))
theorem wrap_u64{n:Int}(h1:0<=n)(h2:n<18446744073709551616):IntKind.u64.wrap n=n:=by
 have a:(2^IntKind.u64.bits:Int)=18446744073709551616:=rfl;simp only[IntKind.wrap,a,show IntKind.u64.signed=false from rfl,Bool.false_and,Bool.false_eq_true,if_false];omega
theorem wrap_u64m(n:Nat):IntKind.u64.wrap (n:Int)=((n%18446744073709551616:Nat):Int):=by
 have a:(2^IntKind.u64.bits:Int)=18446744073709551616:=rfl;simp only[IntKind.wrap,a,show IntKind.u64.signed=false from rfl,Bool.false_and,Bool.false_eq_true,if_false];omega
theorem Y7:BitVec.ofInt 64 (x:Int)=BitVec.ofNat 64 x:=by
 apply BitVec.eq_of_toNat_eq;simp[BitVec.toNat_ofNat]
theorem Yt(a:x<18446744073709551616)(b:y<18446744073709551616):IntKind.u64.wrap ((BitVec.ofInt 64 (x:Int) ^^^ BitVec.ofInt 64 (y:Int)).toNat:Int)=((x ^^^ y:Nat):Int):=by
 have hb:x ^^^ y<2^64:=Nat.xor_lt_two_pow (by omega) (by omega);rw[Y7,Y7,BitVec.toNat_xor,BitVec.toNat_ofNat,BitVec.toNat_ofNat,Nat.mod_eq_of_lt (by omega),Nat.mod_eq_of_lt (by omega),wrap_u64 (by omega) (by omega)]
theorem and_u64(a:x<18446744073709551616)(b:y<18446744073709551616):IntKind.u64.wrap ((BitVec.ofInt 64 (x:Int) &&& BitVec.ofInt 64 (y:Int)).toNat:Int)=((x &&& y:Nat):Int):=by
 have hb:x &&& y<=x:=Nat.and_le_left;rw[Y7,Y7,BitVec.toNat_and,BitVec.toNat_ofNat,BitVec.toNat_ofNat,Nat.mod_eq_of_lt (by omega),Nat.mod_eq_of_lt (by omega),wrap_u64 (by omega) (by omega)]
end Go.TM
namespace Go.Y
open Go.Sort
attribute [local irreducible] T.wp CV FWK
variable {h h1:LH} {r N c:Nat} {el:TypeId} {d:Array Int} {a b:Nat}
variable {x:Nat}
theorem K9(a:x<64):bitsLen x<=6:=(bitsLen_le_iff x 6).2 (by omega)
theorem c2115{h:LH}(a:x<64):Pu Tryz.prog 203 #[.int .u64 (x:Int)] h (.int .i64 (bitsLen x:Nat)):=by
 refine w2115 Qn ?_;refine Jw (fun vs h'=>vs=[.int .u64 (x:Int),.int .i64 0]/\h=h') ?_ ?_
 ·refine t_if (fun e=>by omega) (fun e=>?_);exact Qa ⟨rfl,rfl⟩
 rintro vs _ ⟨rfl,rfl⟩;refine gZ ?_;refine Jw (fun vs h'=>vs=[.int .u64 (x:Int),.int .i64 0]/\h=h') ?_ ?_
 ·refine t_if (fun e=>by omega) (fun e=>?_);exact Qa ⟨rfl,rfl⟩
 rintro vs _ ⟨rfl,rfl⟩;refine gZ ?_;refine t_if (fun e=>by omega) (fun e=>?_);have hw:IntKind.wrap .u8 (x:Int)=(x:Int):=by
  have b:(2^IntKind.u8.bits:Int)=256:=rfl;simp only[IntKind.wrap,b,show IntKind.u8.signed=false from rfl,Bool.false_and,Bool.false_eq_true,if_false];omega
 rw[hw];refine t_indexStrE (by kernel_rfl) (by kernel_rfl) (by omega) (tab_of (by kernel_rfl) a) ?_;refine gZ ?_;have hb:=K9 a;rw[Qj (n:=((bitsLen x:Nat):Int)) (by omega) (by omega),Qj (by omega) (by omega),Int.zero_add];exact Qe ⟨rfl,rfl⟩
theorem c2102{h:LH}(a:x<64):Pu Tryz.prog 173 #[.int .u64 (x:Int)] h (.int .i64 (bitsLen x:Nat)):=by
 refine w2102 Qn ?_;refine t_pu (c2115 a) ?_;refine gZ ?_;exact Qe ⟨rfl,rfl⟩
theorem c2117{h:LH}(b:x<64):Pu Tryz.prog 209 #[.int .i64 (x:Int)] h (.int .u64 ((2^bitsLen x:Nat):Int)):=by
 refine w2117 Qn ?_;rw[wrap_u64 (n:=(x:Int)) (by omega) (by omega)];refine t_pu (c2102 b) ?_;refine gZ ?_;have hb:=K9 b;have c:2^bitsLen x<=2^6:=Nat.pow_le_pow_right (by omega) hb;have e:(1:Int)*2^min ((bitsLen x:Nat):Int).toNat 64=((2^bitsLen x:Nat):Int):=by
  rw[Int.toNat_natCast,Nat.min_eq_left (by omega),Int.one_mul]
  norm_cast
 rw[e];clear e;generalize 2^bitsLen x=M at *;rw[wrap_u64 (n:=(M:Int)) (by omega) (by omega)];exact Qe ⟨rfl,rfl⟩
/-! ### a -/
theorem c2118{h:LH}{q:Nat}{R:Nat}(l:h.get q=some (true,.cells #[.int .u64 (R:Int)] 301 (0,0)))(o:R<18446744073709551616) :
  FW X0 Tryz.prog 210 #[.pointer (some ⟨q,0,none⟩)] h fun v h'=>v=.int .u64 ((xorNextN R:Nat):Int)/\h'={ h with get:=h.get.upd q (true,.cells #[.int .u64 ((xorNextN R:Nat):Int)] 301 (0,0)) }:=by
 have cell:∀ {g:LH} {x:Int},g.get q=some (true,.cells #[.int .u64 x] 301 (0,0))->g.get.cell? ⟨q,0,none⟩=some (.int .u64 x):=fun s=>by
  unfold Cells.cell?;rw[s];rfl
 have st:∀ {g g':LH} {x:Int},Turn1 q g g'->g'.get q=some (true,.cells #[.int .u64 x] 301 (0,0))->g'={ g with get:=g.get.upd q (true,.cells #[.int .u64 x] 301 (0,0)) }:=fun {g g' x} t e=>by
  obtain⟨n,c,p,d⟩:=g';obtain⟨k1,w,y,z⟩:=t;have m:n=g.get.upd q (true,.cells #[.int .u64 x] 301 (0,0)):=by
   funext b;by_cases a:b=q
   ·subst a;rw[Qd];exact e
   ·rw[Qk _ _ a];exact k1 b a
  subst m;cases w;cases y;cases z;rfl
 have C:IntKind.u64.wrap ((R:Int)*2^13)=((R*8192%18446744073709551616:Nat):Int):=by rw[show (R:Int)*2^13=((R*8192:Nat):Int) by omega,wrap_u64m]
 have b1:R ^^^ (R*8192%18446744073709551616)<2^64:=Nat.xor_lt_two_pow (by omega) (by omega);have I:=cell l;refine w2118 Qn ?_;refine gZ ?_;rw[C,Yt o (by omega)];have u:xorNextN R=((R ^^^ (R*8192%18446744073709551616)) ^^^ ((R ^^^ (R*8192%18446744073709551616)) / 128)) ^^^ (((R ^^^ (R*8192%18446744073709551616)) ^^^ ((R ^^^ (R*8192%18446744073709551616)) / 128))*131072%18446744073709551616):=rfl;rw[u];generalize R ^^^ (R*8192%18446744073709551616)=A at *;refine Zo (r:=q) (j:=0) (by rw[Qh]) l (by simp) rfl fun F t1 f=>?_;have J:=cell f;have D:Int.fdiv (A:Int) (2^7)=((A / 128:Nat):Int):=by
  rw[Int.fdiv_eq_ediv_of_nonneg _ (by omega)];omega
 have b2:A ^^^ (A / 128)<2^64:=Nat.xor_lt_two_pow b1 (by omega);refine gZ ?_;rw[D,Yt (by omega) (by omega)];generalize A ^^^ (A / 128)=B at *;refine Zo (r:=q) (j:=0) (by rw[Qh]) f (by simp) rfl fun G t2 i=>?_;have K:=cell i;have E:IntKind.u64.wrap ((B:Int)*2^17)=((B*131072%18446744073709551616:Nat):Int):=by rw[show (B:Int)*2^17=((B*131072:Nat):Int) by omega,wrap_u64m]
 refine gZ ?_;rw[E,Yt (by omega) (by omega)];refine Zo (r:=q) (j:=0) (by rw[Qh]) i (by simp) rfl fun H t3 k=>?_;have L:=cell k;refine gZ ?_;exact Qe ⟨rfl,st ((t1.trans t2).trans t3) k⟩
end Go.Y
end
section
namespace Go.Y
open Go.Sort
attribute [local irreducible] T.wp CV FWK
variable {h h1:LH} {r N c:Nat} {el:TypeId} {d:Array Int} {a b:Nat}
def bpRest(a L M i0:Nat):Nat->Nat->UInt64×Array Int->UInt64×Array Int
 | 0,_,st=>st
 | k+1,t,st=>bpRest a L M i0 k (t+1) (breakStep a L M st (i0+t))
theorem c2107(s:DSt h r el N d h1)(Z:a+12<b)(hb:b<=d.size)(Q:d.size<50) :
  FW X0 Tryz.prog 195 #[.slice (some ⟨r,0,none⟩) d.size c,.int .i64 a,.int .i64 b] h1 fun v h'=>v=.tuple #[]/\DSt h r el N (breakPatterns d a b) h':=by
 refine w2107 Qn ?_;rw[wsub (i:=b) (j:=a) (by omega) (by omega)];refine t_if (fun _=>?_) (fun e=>absurd e (by omega));have u:breakPatterns d a b=(bpRest a (b-a) (1 <<< bitsLen (b-a)) (a+((b-a) / 4)*2-1) 3 0 (UInt64.ofNat (b-a),d)).2:=by
  unfold breakPatterns;simp only[];rw[if_pos (show b-a>=8 by omega)];rfl
 rw[u];rw[wrap_u64 (n:=((b-a:Nat):Int)) (by omega) (by omega)];refine Uc (fun _=>rfl) fun q l=>?_;have f:r≠q:=by
  obtain⟨cs,h2,_⟩:=s.cells;rintro rfl;rw[h2]at l;cases l
 have z:h.get q=none:=by
  cases hx:h.get q with
  | none=>rfl
  | some y=>rw[s.keep q y (Ne.symm f) hx]at l;cases l
 have s1:=s.more (x:=(true,.cells #[.int .u64 ((b-a:Nat):Int)] 301 (0,0))) l;generalize w:({ h1 with get:=h1.get.upd q (true,.cells #[.int .u64 ((b-a:Nat):Int)] 301 (0,0)) }:LH)=h2 at *;have k2:h2.get q=some (true,.cells #[.int .u64 ((b-a:Nat):Int)] 301 (0,0)):=by rw[<- w];exact Qd _ _ _
 refine t_pu (c2117 (x:=b-a) (by omega)) ?_;have R:=K9 (x:=b-a) (by omega);have U:=two_pow_bitsLen_le (n:=b-a) (by omega);have S:0<2^bitsLen (b-a):=Nat.pow_pos (by omega);rw[Nat.one_shiftLeft];generalize 2^bitsLen (b-a)=M at *;have w4:wrap .i64 (Int.tdiv ((b-a:Nat):Int) 4)=(((b-a) / 4:Nat):Int):=by
  have:Int.tdiv ((b-a:Nat):Int) 4=(((b-a) / 4:Nat):Int):=by
   rw[Int.tdiv_eq_ediv_of_nonneg (by omega)];omega
  rw[this,Qj (by omega) (by omega)]
 have w5:wrap .i64 ((((b-a) / 4:Nat):Int)*2)=(((b-a) / 4*2:Nat):Int):=by rw[Qj (by omega) (by omega)];omega
 have w6:wrap .i64 ((a:Int)+(((b-a) / 4*2:Nat):Int))=((a+(b-a) / 4*2:Nat):Int):=wadd (by omega);have w7:wrap .i64 (((a+(b-a) / 4*2:Nat):Int)-1)=((a+(b-a) / 4*2-1:Nat):Int):=by rw[Qj (by omega) (by omega)];omega
 have w8:wrap .i64 (((a+(b-a) / 4*2:Nat):Int)+1)=((a+(b-a) / 4*2+1:Nat):Int):=wsucc (by omega);rw[w4,w5,w6,w7,w8];have o:IntKind.u64.wrap ((M:Int)-1)=((M-1:Nat):Int):=by rw[wrap_u64 (by omega) (by omega)];omega
 refine gZ ?_;refine Qq (fun I vs h'=>∃ (t:Nat) (st:UInt64×Array Int),vs=[.int .i64 ((a+(b-a) / 4*2-1+t:Nat):Int)]/\I=3-t/\t<=3/\DSt h r el N st.2 h'/\st.2.size=d.size/\h'.get q=some (true,.cells #[.int .u64 (st.1.toNat:Int)] 301 (0,0)) /\
   (bpRest a (b-a) M (a+(b-a) / 4*2-1) (3-t) t st).2=(bpRest a (b-a) M (a+(b-a) / 4*2-1) 3 0 (UInt64.ofNat (b-a),d)).2)
  ⟨0,(UInt64.ofNat (b-a),d),rfl,rfl,by omega,s1,rfl,?_,rfl⟩ ?_
 ·rw[k2,show ((UInt64.ofNat (b-a),d):UInt64×Array Int).1=UInt64.ofNat (b-a) from rfl,UInt64.toNat_ofNat',Nat.mod_eq_of_lt (by omega)]
 rintro Y I vs g X ⟨t,st,rfl,rfl,ht,s2,z2,kq,heq⟩;refine yJ (fun K=>?_) (fun K=>?_)
 ·obtain⟨k,hk⟩ : ∃ k,3-t=k+1:=⟨3-t-1,by omega⟩
  rw[hk]at heq;have hR:=st.1.toNat_lt;refine Qz (c2118 kq (by omega)) ?_;rintro _ _ ⟨rfl,rfl⟩;rw[<- xorNext_toNat st.1];have W:=(xorNext st.1).toNat_lt;have A:breakStep a (b-a) M st (a+(b-a) / 4*2-1+t)=(xorNext st.1,swp st.2 (a+(b-a) / 4*2-1+t) (a+(if (xorNext st.1).toNat &&& (M-1)>=b-a then ((xorNext st.1).toNat &&& (M-1))-(b-a) else (xorNext st.1).toNat &&& (M-1)))):=rfl;rw[bpRest,A]at heq;have G:DSt h r el N st.2 { g with get:=g.get.upd q (true,.cells #[.int .u64 ((xorNext st.1).toNat:Int)] 301 (0,0)) }:=by
   obtain⟨cs,c1,c2⟩:=s2.cells;refine⟨fun m y p B=>?_,s2.rest,cs,?_,c2⟩
   ·have:m≠q:=by rintro rfl;rw[z]at B;cases B
    show g.get.upd q _ m=_;rw[Qk _ _ this];exact s2.keep m y p B
   ·show g.get.upd q _ r=_;rw[Qk _ _ f];exact c1
  have E:({ g with get:=g.get.upd q (true,.cells #[.int .u64 ((xorNext st.1).toNat:Int)] 301 (0,0)) }:LH).get q=some (true,.cells #[.int .u64 ((xorNext st.1).toNat:Int)] 301 (0,0)):=Qd _ _ _;generalize ({ g with get:=g.get.upd q (true,.cells #[.int .u64 ((xorNext st.1).toNat:Int)] 301 (0,0)) }:LH)=P at *;refine gZ ?_;rw[o,and_u64 (by omega) (by omega)];have hand:(xorNext st.1).toNat &&& (M-1)<=M-1:=Nat.and_le_right;generalize hO:(xorNext st.1).toNat &&& (M-1)=O at *;rw[Qj (n:=(O:Int)) (by omega) (by omega)];refine Jw (fun vs h'=>vs=[.int .i64 ((if O>=b-a then O-(b-a) else O:Nat):Int)]/\P=h') ?_ ?_
  ·refine t_if (fun L=>?_) (fun L=>?_)
   ·rw[wsub (i:=O) (j:=b-a) (by omega) (by omega),if_pos (by omega)];exact Qa ⟨rfl,rfl⟩
   ·rw[if_neg (by omega)];exact Qa ⟨rfl,rfl⟩
  rintro vs _ ⟨rfl,rfl⟩;have a0:(if O>=b-a then O-(b-a) else O)<b-a:=by split<;>omega
  generalize (if O>=b-a then O-(b-a) else O)=V at *;refine gZ ?_;rw[wadd (i:=a) (j:=V) (by omega)];have y1:=G.cell (i:=a+V) (by omega);have y2:=G.cell (i:=a+(b-a) / 4*2-1+t) (by omega);refine gZ ?_;refine t_storeD' G (i:=a+(b-a) / 4*2-1+t) (by omega) fun g3 r3 C=>?_;refine gZ ?_;refine t_storeD' r3 (i:=a+V) (by rw[Array.size_setIfInBounds];omega) fun H r4 D=>?_;have J:DSt h r el N (swp st.2 (a+(b-a) / 4*2-1+t) (a+V)) H:=r4;have F:H.get q=some (true,.cells #[.int .u64 ((xorNext st.1).toNat:Int)] 301 (0,0)):=by rw[D q (Ne.symm f),C q (Ne.symm f)];exact E
  rw[wsucc (by omega)];refine Qa (X (3-(t+1)) _ _ (by omega) ⟨t+1,(xorNext st.1,swp st.2 (a+(b-a) / 4*2-1+t) (a+V)),rfl,rfl,by omega,J,by rw[<- z2];exact Ki _ _ _,F,?_⟩);rw[show 3-(t+1)=k by omega];exact heq
 ·have:t=3:=by omega
  subst this;refine gZ ?_;exact Qe ⟨rfl,(show st.2=_ from heq)▸s2⟩
end Go.Y
end
section
namespace Go.Sort
def hintI:Hint->Int
 | .increasing=>1
 | .decreasing=>2
 | .unknown=>0
def P4(d3:Array Int)(a b limit pivot:Nat)(wb wp:Bool):Array Int :=
 if a>0&&!ltInt d3[a-1]! d3[pivot]! then
  match partitionEqual ltInt d3 a b pivot with
  | (mid,d4)=>if _h:a<mid/\mid<=b then pdq ltInt d4 mid b limit wb wp else d4
 else
  match partition ltInt d3 a b pivot with
  | (mid,alreadyPartitioned,d4) =>
   if _h:a<=mid/\mid<b then
    if mid-a<b-mid then
     pdq ltInt (pdq ltInt d4 a mid limit true true) (mid+1) b limit (decide (mid-a>=(b-a) / 8)) alreadyPartitioned
    else
     pdq ltInt (pdq ltInt d4 (mid+1) b limit true true) a mid limit (decide (b-mid>=(b-a) / 8)) alreadyPartitioned
   else d4
def P3(d2:Array Int)(a b limit pivot:Nat)(hint:Hint)(wb wp:Bool):Array Int :=
 let pi:=if wb&&wp&&hint=.increasing then partialInsertionSort ltInt d2 a b else (d2,false)
 if pi.2 then pi.1 else P4 pi.1 a b limit pivot wb wp
def P2(d1:Array Int)(a b limit:Nat)(wb wp:Bool):Array Int :=
 let c:=choosePivot ltInt d1 a b
 P3 (if c.2=.decreasing then reverseRange d1 a b else d1) a b limit (if c.2=.decreasing then (b-1)-(c.1-a) else c.1) (if c.2=.decreasing then Hint.increasing else c.2) wb wp
theorem pdq_stage{d:Array Int}{a b c:Nat}{e wp:Bool}(h1:¬ b-a<=12)(h2:¬ c=0):pdq ltInt d a b c e wp=P2 (if !e then breakPatterns d a b else d) a b (if !e then c-1 else c) e wp:=by
 rw[pdq,if_neg h1,if_neg h2];rfl
end Go.Sort
namespace Go.Y
open Go.Sort
attribute [local irreducible] T.wp CV FWK
variable {h h1:LH} {r N c:Nat} {el:TypeId} {d:Array Int} {a b:Nat}
structure PSt(h:LH)(r:Nat)(el:TypeId)(N:Nat)(d:Array Int)(q k:Nat)(h':LH):Prop where
 st:DSt h r el N d h'
 no:h.get q=none
 ne:q≠r
 cell:h'.get q=some (true,.cells #[.int .i64 (k:Int)] 3 (0,0))
variable {q k x y:Nat}
theorem c2121(s:PSt h r el N d q k h1)(l:x<d.size)(m:y<d.size)(p:d.size<2^30)(t:k<100) :
  FW X0 Tryz.prog 215 #[.slice (some ⟨r,0,none⟩) d.size c,x,y,.pointer (some ⟨q,0,none⟩)] h1 fun v h'=>v=.tuple #[.int .i64 ((order2 ltInt d x y k).1:Nat),.int .i64 ((order2 ltInt d x y k).2.1:Nat)]/\PSt h r el N d q (order2 ltInt d x y k).2.2 h':=by
 refine w2121 Qn ?_;have u:=s.st.cell (i:=y) m;have w:=s.st.cell (i:=x) l;have z:h1.get.cell? ⟨q,0,none⟩=some (.int .i64 (k:Int)):=by
  unfold Cells.cell?;rw[s.cell];rfl
 refine gZ ?_;refine t_pu (c2111 _ _) ?_;refine gZ ?_;unfold order2;refine Qt (fun e=>?_) (fun e=>?_)
 ·rw[if_pos e];refine gZ ?_;rw[wsucc (by omega)];refine Zo (r:=q) (j:=0) (by rw[Qh]) s.cell (by simp) rfl fun o t1 g=>?_;refine Qe ⟨rfl,⟨fun b n f a=>?_,⟨t1.rest.1.trans s.st.rest.1,t1.rest.2.1.trans s.st.rest.2.1,t1.rest.2.2.trans s.st.rest.2.2⟩,?_⟩,s.no,s.ne,g⟩
  ·have:b≠q:=by rintro rfl;rw[s.no]at a;cases a
   rw[t1.keep b this];exact s.st.keep b n f a
  ·obtain⟨cs,c1,c2⟩:=s.st.cells;exact⟨cs,by rw[t1.keep r (Ne.symm s.ne)];exact c1,c2⟩
 ·rw[if_neg (by rw[e];simp)];exact Qe ⟨rfl,s⟩
theorem Hz(d:Array Int)(x y k:Nat):(order2 ltInt d x y k).2.2<=k+1:=by unfold order2;split<;>simp
theorem order2_lt{d:Array Int}{n:Nat}(a:x<n)(b:y<n):(order2 ltInt d x y k).1<n/\(order2 ltInt d x y k).2.1<n:=by
 rcases order2_mem ltInt d x y k with⟨h1,h2⟩|⟨h1,h2⟩<;>omega
theorem c2120{z:Nat}(s:PSt h r el N d q k h1)(e:x<d.size)(f:y<d.size)(g:z<d.size)(b:d.size<2^30)(n:k<90) :
  FW X0 Tryz.prog 212 #[.slice (some ⟨r,0,none⟩) d.size c,x,y,z,.pointer (some ⟨q,0,none⟩)] h1 fun v h'=>v=.int .i64 ((median ltInt d x y z k).1:Nat)/\PSt h r el N d q (median ltInt d x y z k).2 h':=by
 refine w2120 Qn ?_;have hm:median ltInt d x y z k=((order2 ltInt d (order2 ltInt d x y k).1 (order2 ltInt d (order2 ltInt d x y k).2.1 z (order2 ltInt d x y k).2.2).1 (order2 ltInt d (order2 ltInt d x y k).2.1 z (order2 ltInt d x y k).2.2).2.2).2.1,(order2 ltInt d (order2 ltInt d x y k).1 (order2 ltInt d (order2 ltInt d x y k).2.1 z (order2 ltInt d x y k).2.2).1 (order2 ltInt d (order2 ltInt d x y k).2.1 z (order2 ltInt d x y k).2.2).2.2).2.2):=rfl;rw[hm];have b1:=order2_lt (d:=d) (k:=k) e f;have k1:=Hz d x y k;refine Qz (c2121 s e f b (by omega)) ?_;rintro _ j ⟨rfl,s1⟩;generalize order2 ltInt d x y k=a at *;have b2:=order2_lt (d:=d) (k:=a.2.2) b1.2 g;have o:=Hz d a.2.1 z a.2.2;refine gZ ?_;refine Qz (c2121 s1 b1.2 g b (by omega)) ?_;rintro _ l ⟨rfl,s2⟩;generalize order2 ltInt d a.2.1 z a.2.2=p at *;refine gZ ?_;refine Qz (c2121 s2 b1.1 b2.1 b (by omega)) ?_;rintro _ m ⟨rfl,i⟩;refine gZ ?_;exact Qe ⟨rfl,i⟩
theorem median_k(d:Array Int)(x y z k:Nat):(median ltInt d x y z k).2<=k+3:=by
 unfold median;simp only[];have h1:=Hz d x y k;generalize order2 ltInt d x y k=a at *;have h2:=Hz d a.2.1 z a.2.2;generalize order2 ltInt d a.2.1 z a.2.2=b at *;have h3:=Hz d a.1 b.1 b.2.2;omega
theorem c2108(s:DSt h r el N d h1)(A:a+12<b)(hb:b<=d.size)(w:d.size<50) :
  FW X0 Tryz.prog 196 #[.slice (some ⟨r,0,none⟩) d.size c,.int .i64 a,.int .i64 b] h1 fun v h'=>v=.tuple #[.int .i64 ((choosePivot ltInt d a b).1:Nat),.int .i64 (hintI (choosePivot ltInt d a b).2)]/\DSt h r el N d h':=by
 refine w2108 Qn ?_;refine J1 fun q g=>?_;have k:q≠r:=by
  obtain⟨cs,h2,_⟩:=s.cells;rintro rfl;rw[h2]at g;cases g
 have l:h.get q=none:=by
  cases E:h.get q with
  | none=>rfl
  | some y=>rw[s.keep q y k E]at g;cases g
 have s1:PSt h r el N d q 0 { h1 with get:=h1.get.upd q (true,.cells #[.int .i64 0] 3 (0,0)) }:=⟨s.more g,l,k,Qd _ _ _⟩
 generalize ({ h1 with get:=h1.get.upd q (true,.cells #[.int .i64 0] 3 (0,0)) }:LH)=h2 at *;have p:choosePivot ltInt d a b=((median ltInt d (a+(b-a) / 4*1) (a+(b-a) / 4*2) (a+(b-a) / 4*3) 0).1,if (median ltInt d (a+(b-a) / 4*1) (a+(b-a) / 4*2) (a+(b-a) / 4*3) 0).2=0 then .increasing else if (median ltInt d (a+(b-a) / 4*1) (a+(b-a) / 4*2) (a+(b-a) / 4*3) 0).2=12 then .decreasing else .unknown):=by
  unfold choosePivot;simp only[];rw[if_pos (show b-a>=8 by omega),if_neg (show ¬ b-a>=50 by omega)]
 rw[p];have m:∀ j:Nat,j<=3->wrap .i64 ((a:Int)+wrap .i64 (wrap .i64 (Int.tdiv ((b-a:Nat):Int) 4)*(j:Int)))=((a+(b-a) / 4*j:Nat):Int):=fun j B=>by
  have t:Int.tdiv ((b-a:Nat):Int) 4=(((b-a) / 4:Nat):Int):=by
   rw[Int.tdiv_eq_ediv_of_nonneg (by omega)];omega
  have u:(((b-a) / 4:Nat):Int)*(j:Int)=(((b-a) / 4*j:Nat):Int):=by norm_cast
  have hle:(b-a) / 4*j<=50*3:=Nat.mul_le_mul (by omega) B;rw[t,Qj (n:=(((b-a) / 4:Nat):Int)) (by omega) (by omega),u,Qj (n:=(((b-a) / 4*j:Nat):Int)) (by omega) (by omega),wadd (by omega)]
 have D:a+(b-a) / 4*3<b:=by omega
 rw[wsub (i:=b) (j:=a) (by omega) (by omega)];have w1:=m 1 (by omega);have w2:=m 2 (by omega);have w3:=m 3 (by omega);rw[show ((1:Nat):Int)=1 from rfl]at w1;rw[show ((2:Nat):Int)=2 from rfl]at w2;rw[show ((3:Nat):Int)=3 from rfl]at w3;rw[w1,w2,w3];have C:=median_k d (a+(b-a) / 4*1) (a+(b-a) / 4*2) (a+(b-a) / 4*3) 0;have f:=c2120 (c:=c) s1 (x:=a+(b-a) / 4*1) (y:=a+(b-a) / 4*2) (z:=a+(b-a) / 4*3) (by omega) (by omega) (by omega) (by omega) (by omega);generalize median ltInt d (a+(b-a) / 4*1) (a+(b-a) / 4*2) (a+(b-a) / 4*3) 0=M at *;refine gZ ?_;refine Jw (fun vs h'=>vs=[.int .i64 (M.1:Nat)]/\PSt h r el N d q M.2 h') ?_ ?_
 ·refine t_if (fun _=>?_) (fun e=>absurd e (by omega));refine t_if (fun e=>absurd e (by omega)) (fun _=>?_);refine Qz f ?_;rintro _ o ⟨rfl,s2⟩;refine gZ ?_;exact Qa ⟨rfl,s2⟩
 rintro vs o ⟨rfl,s2⟩;have F:o.get.cell? ⟨q,0,none⟩=some (.int .i64 (M.2:Int)):=by
  unfold Cells.cell?;rw[s2.cell];rfl
 refine yI (fun e=>?_) (fun e=>?_)
 ·rw[if_pos (by simpa using e)];exact Qe ⟨rfl,s2.st⟩
 ·rw[if_neg (by simpa using e),if_neg (by omega)];refine Qt (fun e=>by simp at e;omega) (fun e=>?_);exact Qe ⟨rfl,s2.st⟩
theorem c2101:∀ (M:Nat) {h h1:LH} {r N c:Nat} {el:TypeId} {d:Array Int} {a b:Nat} (m:Nat),b-a<=M->DSt h r el N d h1->a<=b->b<=d.size->d.size<50->m<100->Below ltInt a b d ->
  FW X0 Tryz.prog 172 #[.slice (some ⟨r,0,none⟩) d.size c,.int .i64 a,.int .i64 b,.int .i64 m] h1 fun v h'=>v=.tuple #[]/\DSt h r el N (pdq ltInt d a b m true true) h':=by
 intro M
 induction M using Nat.strongRecOn with
 | ind M ih =>
  intro h h1 r N c el d a b m hM s w hb a0 B X;refine w2101 _ _ _ _ _ _ Qn ?_;unfold n2101;generalize l:pdq ltInt d a b m true true=R;refine Qq (fun mm vs h'=>∃ (a b f:Nat) (q wp:Bool) (d':Array Int),vs=[.int .i64 a,.int .i64 b,.int .i64 f,.bool q,.bool wp]/\mm=b-a/\b-a<=M/\a<=b/\b<=d'.size/\d'.size=d.size/\f<100/\Below ltInt a b d'/\DSt h r el N d' h'/\pdq ltInt d' a b f q wp=R)
   ⟨a,b,m,true,true,d,rfl,rfl,hM,w,hb,rfl,B,X,s,l⟩ ?_
  rintro Y mm vs g hY ⟨a,b,f,q,wp,d,rfl,rfl,hM,w,hb,hz,B,X,s,l⟩;obtain⟨n,I⟩ : ∃ n,n=d.size:=⟨_,rfl⟩
  rw[<- hz,<- I];rw[<- hz,<- I]at a0;have fin:∀ {h'},DSt h r el N R h'->(T.leaf (.ret (.tuple #[]))).wp X0 Tryz.prog (retQ fun v h'=>v=.tuple #[]/\DSt h r el N R h') h':=fun s'=>Qe ⟨rfl,s'⟩;refine gZ ?_;rw[wsub (i:=b) (j:=a) (by omega) (by omega)];refine t_if (fun e1=>?_) (fun e1=>?_)
  ·rw[pdq,if_pos (show b-a<=12 by omega)]at l;have hc:=c2105 (c:=c) s w hb (by omega);rw[<- I]at hc;refine Qz hc ?_;rintro _ g1 ⟨rfl,s1⟩;refine gZ ?_;exact fin (l▸s1)
  have K:¬ b-a<=12:=by omega
  have o:a<b:=by omega
  refine Qt (fun e2=>?_) (fun e2=>?_)
  ·have:f=0:=by simpa using e2
   subst this;rw[pdq,if_neg K,if_pos rfl]at l;have hc:=c2106 (c:=c) s o hb (by omega);rw[<- I]at hc;refine Qz hc ?_;rintro _ g1 ⟨rfl,s1⟩;refine gZ ?_;exact fin (l▸s1)
  have k0:¬ f=0:=by simpa using e2
  rw[pdq_stage K k0]at l;have U:PermIn a b d (if !q then breakPatterns d a b else d):=by
   cases q
   ·exact breakPatterns_holds d a b w hb
   ·exact permIn_refl d a b
  have u:(if !q then f-1 else f)<100:=by split<;>omega
  refine Jw (fun vs h'=>vs=[.int .i64 ((if !q then f-1 else f:Nat):Int)]/\DSt h r el N (if !q then breakPatterns d a b else d) h') ?_ ?_
  ·cases q
   ·refine yT ?_;have hc:=c2107 (c:=c) (a:=a) (b:=b) s (by omega) hb (by omega);rw[<- I]at hc;refine Qz hc ?_;rintro _ g1 ⟨rfl,s1⟩;refine gZ ?_;rw[Qj (n:=(f:Int)-1) (by omega) (by omega)];exact Qa ⟨by rw[show (if !false then f-1 else f)=f-1 from rfl,show ((f-1:Nat):Int)=(f:Int)-1 by omega],s1⟩
   ·refine yF ?_;exact Qa ⟨rfl,s⟩
  rintro vs g1 ⟨rfl,s1⟩;generalize (if !q then f-1 else f)=k at *;generalize (if !q then breakPatterns d a b else d)=d1 at *;have z1:d1.size=n:=by rw[U.1,I]
  have b1:b<=d1.size:=by rw[U.1];exact hb
  have B1:=X.perm hb U;clear X s;have G:=c2108 (c:=c) (a:=a) (b:=b) s1 (by omega) b1 (by omega);rw[z1]at G;have e0:=choosePivot_holds ltInt d1 a b o;unfold P2 at l;simp only[]at l;generalize choosePivot ltInt d1 a b=C at *;refine gZ ?_;refine Qz G ?_;rintro _ g2 ⟨rfl,s2⟩;refine gZ ?_;have E:PermIn a b d1 (if C.2=.decreasing then reverseRange d1 a b else d1):=by
   split
   ·exact reverseRange_holds d1 a b w b1
   ·exact permIn_refl d1 a b
  have t:a<=(if C.2=.decreasing then (b-1)-(C.1-a) else C.1)/\(if C.2=.decreasing then (b-1)-(C.1-a) else C.1)<b:=by split<;>omega
  refine Jw (fun vs h'=>vs=[.int .i64 ((if C.2=.decreasing then (b-1)-(C.1-a) else C.1:Nat):Int),.int .i64 (hintI (if C.2=.decreasing then Hint.increasing else C.2))]/\DSt h r el N (if C.2=.decreasing then reverseRange d1 a b else d1) h') ?_ ?_
  ·by_cases hC:C.2=.decreasing
   ·rw[hC];refine yT ?_;have hc:=c2109 (c:=c) s2 o b1 (by omega);rw[z1]at hc;refine Qz hc ?_;rintro _ g3 ⟨rfl,Q⟩;refine gZ ?_;rw[Qj (n:=(b:Int)-1) (by omega) (by omega),wsub (i:=C.1) (j:=a) (by omega) (by omega),Qj (n:=(b:Int)-1-((C.1-a:Nat):Int)) (by omega) (by omega)];refine Qa ⟨?_,Q⟩;rw[if_pos rfl,if_pos rfl,show (((b-1)-(C.1-a):Nat):Int)=(b:Int)-1-((C.1-a:Nat):Int) by omega];rfl
   ·rw[if_neg hC,if_neg hC,if_neg hC];refine Qt (fun e=>?_) (fun _=>?_)
    ·exfalso;apply hC;cases hh:C.2 with
     | increasing=>rw[hh]at e;cases e
     | decreasing=>rfl
     | unknown=>rw[hh]at e;cases e
    ·exact Qa ⟨rfl,s2⟩
  rintro vs g3 ⟨rfl,Q⟩;generalize (if C.2=.decreasing then (b-1)-(C.1-a) else C.1)=D at *;generalize (if C.2=.decreasing then Hint.increasing else C.2)=hi at *;generalize (if C.2=.decreasing then reverseRange d1 a b else d1)=d2 at *;have z2:d2.size=n:=by rw[E.1,z1]
  have b2:b<=d2.size:=by omega
  have S:=B1.perm b1 E;clear s1 s2 B1 G e0;refine gZ ?_;refine Jw (fun vs h'=>vs=[]/\∃ d3,DSt h r el N d3 h'/\d3.size=n/\Below ltInt a b d3/\P4 d3 a b k D q wp=R) ?_ ?_
  ·unfold P3 at l;simp only[]at l;have skip:(q&&wp&&decide (hi=Hint.increasing))=false->∃ d3,DSt h r el N d3 g3/\d3.size=n/\Below ltInt a b d3/\P4 d3 a b k D q wp=R:=fun hf=>by
    rw[hf]at l;exact⟨d2,Q,z2,S,l⟩
   refine Qt (fun z=>?_) (fun z=>Qa ⟨rfl,skip (by rw[z];rfl)⟩);refine Qt (fun A=>?_) (fun A=>Qa ⟨rfl,skip (by rw[A,Bool.and_false];rfl)⟩);refine Qt (fun W=>?_) (fun W=>Qa ⟨rfl,skip (by rw[decide_eq_false (by rintro rfl;cases W),Bool.and_false])⟩);have j0:hi=.increasing:=by
    cases hi with
    | increasing=>rfl
    | decreasing=>cases W
    | unknown=>cases W
   rw[z,A,j0,if_pos (show (true&&true&&decide (Hint.increasing=Hint.increasing))=true from rfl)]at l;have hc:=c2110 (c:=c) Q o b2 (by omega) (by omega);rw[z2]at hc;have O:=partialInsertionSort_holds swo_ltInt d2 a b o b2 S;generalize partialInsertionSort ltInt d2 a b=pi at *;refine Qz hc ?_;rintro _ g4 ⟨rfl,H⟩;refine yI (fun e6=>?_) (fun e6=>?_)
   ·rw[e6,if_pos rfl]at l;refine gZ ?_;exact fin (l▸H)
   ·rw[e6,if_neg (by simp)]at l;rw[z,A];exact Qa ⟨rfl,pi.1,H,by rw[O.1.1,z2],S.perm b2 O.1,l⟩
  rintro vs g4 ⟨rfl,d3,H,z3,B3,l⟩;have V:b<=d3.size:=by omega
  clear Q S E U;unfold P4 at l;refine gZ ?_;refine Jw (fun vs h'=>vs=[.int .i64 a]/\g4=h'/\(decide (a>0)&&!ltInt d3[a-1]! d3[D]!)=false) ?_ ?_
  ·refine t_if (fun z=>?_) (fun z=>?_)
   ·have L:0<a:=by omega
    have wa:wrap .i64 ((a:Int)-1)=((a-1:Nat):Int):=by rw[Qj (by omega) (by omega)];omega
    rw[wa];have y1:=H.cell (i:=a-1) (by omega);have y2:=H.cell (i:=D) (by omega);refine gZ ?_;refine t_pu (c2111 _ _) ?_;refine yI (fun A=>?_) (fun A=>?_)
    ·have x:ltInt d3[a-1]! d3[D]! = false:=by simpa using A
     rw[x,decide_eq_true L,if_pos (by rfl)]at l;have hc:=c2112 (c:=c) H t V (by omega);rw[z3]at hc;cases P:partitionEqual ltInt d3 a b D with
     | mk mid d4 =>
      rw[P]at hc l;obtain⟨J,Z,q3,q4,_⟩:=round_eq swo_ltInt (partitionEqual_holds ltInt) L t.1 t.2 V B3 x P;simp only[]at l hc;rw[dif_pos ⟨J,Z⟩]at l;refine Qz hc ?_;rintro _ g5 ⟨rfl,s5⟩;refine yT ?_;refine gZ ?_;exact Qa (hY (b-mid) _ _ (by omega) ⟨mid,b,k,q,wp,d4,rfl,rfl,by omega,Z,by omega,by omega,u,q4,s5,l⟩)
    ·have x:ltInt d3[a-1]! d3[D]! = true:=by simpa using A
     exact Qa ⟨rfl,rfl,by rw[x,Bool.not_true,Bool.and_false]⟩
   ·refine gZ ?_;exact Qa ⟨rfl,rfl,by rw[decide_eq_false (by omega),Bool.false_and]⟩
  rintro vs _ ⟨rfl,rfl,l0⟩;rw[l0,if_neg (by simp)]at l;have hc:=c2113 (c:=c) H t V (by omega);rw[z3]at hc;cases P:partition ltInt d3 a b D with
  | mk mid r2 =>
   obtain⟨ap,d4⟩:=r2;rw[P]at hc l;obtain⟨J,Z,q3,qa,qr,ql,qm⟩:=round_part swo_ltInt (partition_holds ltInt) t.1 t.2 V B3 P;simp only[]at l hc;rw[dif_pos ⟨J,Z⟩]at l;have z4:d4.size=n:=by omega
   refine gZ ?_;refine Qz hc ?_;rintro _ g5 ⟨rfl,s5⟩;refine gZ ?_;rw[wsub (i:=mid) (j:=a) (by omega) (by omega),wsub (i:=b) (j:=mid) (by omega) (by omega)];have w8:wrap .i64 (Int.tdiv ((b-a:Nat):Int) 8)=(((b-a) / 8:Nat):Int):=by
    have:Int.tdiv ((b-a:Nat):Int) 8=(((b-a) / 8:Nat):Int):=by
     rw[Int.tdiv_eq_ediv_of_nonneg (by omega)];omega
    rw[this,Qj (by omega) (by omega)]
   rw[w8];refine t_if (fun z=>?_) (fun z=>?_)
   ·rw[if_pos (show mid-a<b-mid by omega)]at l;have p:=ih (mid-a) (by omega) (c:=c) k (Nat.le_refl _) s5 J (by omega) (by omega) u qa;rw[z4]at p;have y:=pdq_sorts ltInt swo_ltInt d4 a mid k true true J (by omega) qa;obtain⟨F,_⟩:=ql _ y.1 y.2;generalize pdq ltInt d4 a mid k true true=d5 at *;refine Qz p ?_;rintro _ g6 ⟨rfl,s6⟩;refine gZ ?_;rw[wsucc (by omega)];refine Qa (hY (b-(mid+1)) _ _ (by omega) ⟨mid+1,b,k,decide (mid-a>=(b-a) / 8),ap,d5,?_,rfl,by omega,by omega,by rw[y.1.1];omega,by rw[y.1.1];omega,u,F,s6,l⟩);rw[show decide (((mid-a:Nat):Int)>=(((b-a) / 8:Nat):Int))=decide (mid-a>=(b-a) / 8) from decide_eq_decide.2 (by omega)]
   ·rw[if_neg (show ¬ mid-a<b-mid by omega)]at l;rw[wsucc (by omega)];have p:=ih (b-(mid+1)) (by omega) (c:=c) k (Nat.le_refl _) s5 (by omega) (by omega) (by omega) u qr;rw[z4]at p;have y:=pdq_sorts ltInt swo_ltInt d4 (mid+1) b k true true (by omega) (by omega) qr;obtain⟨F,_⟩:=qm _ y.1 y.2;generalize pdq ltInt d4 (mid+1) b k true true=d5 at *;refine Qz p ?_;rintro _ g6 ⟨rfl,s6⟩;refine gZ ?_;refine Qa (hY (mid-a) _ _ (by omega) ⟨a,mid,k,decide (b-mid>=(b-a) / 8),ap,d5,?_,rfl,by omega,J,by rw[y.1.1];omega,by rw[y.1.1];omega,u,F,s6,l⟩);rw[show decide (((b-mid:Nat):Int)>=(((b-a) / 8:Nat):Int))=decide (b-mid>=(b-a) / 8) from decide_eq_decide.2 (by omega)]
end Go.Y
end
section
namespace Go.TM
open Go.Sort
def stepC(acc:List Int)(x:Int):List Int:=if acc.getLast?=some x then acc else acc++[x]
def compactL(l:List Int):List Int:=l.foldl stepC []
theorem compact_snoc(l:List Int)(x:Int):compactL (l++[x])=stepC (compactL l) x:=by simp[compactL,List.foldl_append]
theorem compact_spec:∀ (k:Nat) (l:List Int),l.length=k->l.Pairwise (·<=·)->(compactL l).Pairwise (·<·)/\(∀ y,y∈compactL l↔y∈l)/\(compactL l).getLast?=l.getLast?:=by
 intro k
 induction k with
 | zero=>intro l h _;rw[List.eq_nil_of_length_eq_zero h];simp[compactL]
 | succ k s =>
  intro l h n;have j:l≠[]:=by rintro rfl;simp at h
  obtain⟨m,x,rfl⟩ : ∃ m x,l=m++[x]:=⟨l.dropLast,l.getLast j,(List.dropLast_concat_getLast j).symm⟩
  rw[List.pairwise_append]at n;obtain⟨h1,h2,h3⟩:=s m (by simpa using h) n.1;rw[compact_snoc];unfold stepC;split
  ·rename_i i;have hm:x∈m:=by
    rw[h3]at i;exact List.mem_of_getLast? i
   refine⟨h1,fun y=>?_,by rw[i];simp⟩;rw[h2,List.mem_append,List.mem_singleton];constructor
   ·exact .inl
   ·rintro(e|rfl)
    ·exact e
    ·exact hm
  ·rename_i i;refine⟨?_,fun y=>by rw[List.mem_append,List.mem_append,h2],by simp⟩;rw[List.pairwise_append];refine⟨h1,by simp,fun a g b hb=>?_⟩;rw[List.mem_singleton]at hb;subst hb;have hle:=n.2.2 a ((h2 a).1 g) b (by simp);by_cases e:a=b
   ·exfalso;subst e
    -- a is o f of m, t o last
    apply i;have d:m≠[]:=by rintro rfl;simp[compactL]at g
    have p:compactL m≠[]:=by intro e;rw[e]at g;cases g
    obtain⟨q,z,rfl⟩ : ∃ q z,m=q++[z]:=⟨m.dropLast,m.getLast d,(List.dropLast_concat_getLast d).symm⟩
    rw[h3];simp only[List.getLast?_append,List.getLast?_singleton,Option.some_or,Option.some.injEq];have r:z<=a:=n.2.2 z (by simp) a (by simp);have c:=(h2 a).1 g;rw[List.mem_append,List.mem_singleton]at c;rcases c with c|rfl
    ·have:=(List.pairwise_append.1 n.1).2.2 a c z (by simp);omega
    ·rfl
   ·omega
theorem compact_take{l:List Int}{k:Nat}{x y:Int}(d:l.Pairwise (·<=·))(b:l[k]?=some x)(f:l[k+1]?=some y):compactL (l.take (k+1+1))=if y=x then compactL (l.take (k+1)) else compactL (l.take (k+1))++[y]:=by
 rw[List.take_add_one,f];show compactL (l.take (k+1)++[y])=_;rw[compact_snoc];have c:=(compact_spec _ (l.take (k+1)) rfl (d.sublist (List.take_sublist _ _))).2.2;have a:(l.take (k+1)).getLast?=some x:=by
  rw[List.take_add_one,b];simp
 unfold stepC;rw[c,a];by_cases e:y=x
 ·rw[if_pos e,if_pos (by rw[e])]
 ·rw[if_neg e,if_neg (by simpa using Ne.symm e)]
theorem compact_len:∀ l:List Int,(compactL l).length<=l.length:=by
 have:∀ (l acc:List Int),(l.foldl stepC acc).length<=acc.length+l.length:=by
  intro l
  induction l with
  | nil=>intro acc;simp
  | cons x l a =>
   intro acc;have h1:=a (stepC acc x);have h2:(stepC acc x).length<=acc.length+1:=by unfold stepC;split<;>simp
   rw[List.foldl_cons,List.length_cons];omega
 intro l;have:=this l [];simpa[compactL] using this
theorem DSt.cellAt{h h':LH}{r N:Nat}{el:TypeId}{d:Array Int}(s:DSt h r el N d h'){o i:Nat}(b:o+i<d.size):h'.get.cell? (Addr.add ⟨r,o,none⟩ ((i:Int).toNat*1))=some (.int .i64 d[o+i]!):=by
 obtain⟨cs,h1,_,_,a⟩:=s.cells;rw[Qh,Int.toNat_natCast,Nat.mul_one];unfold Cells.cell?;rw[h1];exact a _ b
end Go.TM
namespace Go.Y
open Go.Sort
attribute [local irreducible] T.wp CV FWK
variable {h h1:LH}{r N c:Nat}{d:Array Int}
theorem c2092{el:TypeId}(s:DSt h r el N d h1)(e:d.size<50) :
  FW X0 Tryz.prog 127 #[.slice (some ⟨r,0,none⟩) d.size c] h1 fun v h'=>v=.tuple #[]/\DSt h r el N (Go.Sort.sort ltInt d) h':=by
 refine w2092 _ _ _ Qn ?_;unfold n2092;rw[wrap_u64 (n:=(d.size:Int)) (by omega) (by omega)];refine t_pu (c2102 (x:=d.size) (by omega)) ?_;have hb:=K9 (x:=d.size) (by omega);refine gZ ?_;refine Qz (c2101 d.size (a:=0) (b:=d.size) (c:=c) (bitsLen d.size) (by omega) s (by omega) (Nat.le_refl _) e (by omega) (.inl rfl)) ?_;rintro _ h2 ⟨rfl,s2⟩;refine gZ ?_;exact Qe ⟨rfl,s2⟩
theorem c2092n:Pu Tryz.prog 127 #[.slice none 0 0] h1 (.tuple #[]):=by
 have h5:Pu Tryz.prog 193 #[.slice none 0 0,.int .i64 0,.int .i64 0] h1 (.tuple #[]):=by
  refine w2105 _ _ _ _ _ Qn ?_;unfold n2105;refine Qq (fun a vs h'=>a=0/\vs=[.int .i64 1]/\h1=h') ⟨rfl,by rw[Qj (by omega) (by omega)];rfl,rfl⟩ ?_;rintro Y a vs _ c ⟨rfl,rfl,rfl⟩;refine gZ ?_;refine t_if (fun e=>absurd e (by omega)) (fun _=>?_);refine gZ ?_;exact Qe ⟨rfl,rfl⟩
 have b:∀ z:Int,Pu Tryz.prog 172 #[.slice none 0 0,.int .i64 0,.int .i64 0,.int .i64 z] h1 (.tuple #[]):=fun z=>by
  refine w2101 _ _ _ _ _ _ Qn ?_;unfold n2101;refine Qq (fun a vs h'=>a=0/\vs=[.int .i64 0,.int .i64 0,.int .i64 z,.bool true,.bool true]/\h1=h') ⟨rfl,rfl,rfl⟩ ?_;rintro Y a vs _ c ⟨rfl,rfl,rfl⟩;refine gZ ?_;rw[Qj (n:=(0:Int)-0) (by omega) (by omega)];refine t_if (fun _=>?_) (fun e=>absurd (by omega) e);refine t_pu h5 ?_;refine gZ ?_;exact Qe ⟨rfl,rfl⟩
 refine w2092 _ _ _ Qn ?_;unfold n2092;rw[wrap_u64 (n:=((0:Nat):Int)) (by omega) (by omega)];refine t_pu (c2102 (x:=0) (by omega)) ?_;refine gZ ?_;refine t_pu (b _) ?_;refine gZ ?_;exact Qe ⟨rfl,rfl⟩
theorem Ks{k:Nat}(h:k<d.size):d.toList[k]?=some d[k]!:=by
 rw[Array.getElem?_toList,Array.getElem?_eq_getElem h,getElem!_pos d k h]
theorem c3214(s:DSt h r 3 N d h1)(hc:d.size<=c)(J:d.toList.Pairwise (·<=·))(Q:d.size<2^30) :
  FW X0 Tryz.prog 128 #[.slice (some ⟨r,0,none⟩) d.size c] h1 fun v h'=>v=.slice (some ⟨r,0,none⟩) (compactL d.toList).length c/\∃ d',DSt h r 3 N d' h':=by
 refine w3214 _ _ _ Qn ?_;unfold n3214;have u:d.toList.length=d.size:=Array.length_toList;refine t_if (fun L=>?_) (fun L=>?_)
 ·have:(compactL d.toList).length=d.size:=by
   cases B:d.toList with
   | nil=>rw[B]at u;rw[<- u];rfl
   | cons x m =>
    cases m with
    | nil=>rw[B]at u;rw[<- u];rfl
    | cons y m=>rw[B]at u;simp at u;omega
  rw[this];exact Qe ⟨rfl,d,s⟩
 generalize W:d.size=n at *;refine Qq (fun A vs h'=>∃ k:Nat,vs=[.slice none 0 0,.int .i64 k]/\A=n-k/\1<=k/\k<=n/\h1=h'/\compactL (d.toList.take k)=d.toList.take k) ⟨1,rfl,rfl,Nat.le_refl _,by omega,rfl,?_⟩ ?_
 ·cases B:d.toList with
  | nil=>rfl
  | cons x m=>rfl
 rintro Y A vs _ R ⟨k,rfl,rfl,U,V,rfl,e⟩;refine yJ (fun M=>?_) (fun M=>?_)
 ·obtain⟨k,rfl⟩ : ∃ j,k=j+1:=⟨k-1,by omega⟩
  have y1:=s.cell (i:=k+1) (by omega);have y2:=s.cell (i:=k) (by omega);rw[wpred (by omega)];have p:=compact_take J (Ks (d:=d) (k:=k) (by omega)) (Ks (d:=d) (k:=k+1) (by omega));refine yI (fun D=>?_) (fun D=>?_)
  ·have F:d[k+1]! = d[k]!:=by simpa using D
   rw[if_pos F,e]at p;refine Hd und50 inf3 (by omega) ?_;rw[if_neg (by omega),show (some (⟨r,0,none⟩ : Addr)).map (·.add ((k+1)*1))=some ⟨r,k+1,none⟩ by simp[Qh]];refine gZ ?_;refine Qq (fun A vs h'=>∃ (i a:Nat) (d':Array Int),vs=[.int .i64 i,.int .i64 a]/\A=n-(k+1)-a/\1<=a/\a<=n-(k+1)/\i=(compactL (d.toList.take (k+1+a))).length/\i<=k+a/\DSt h r 3 N d' h'/\d'.size=n/\∀ j,k+a<=j->j<n->d'[j]! = d[j]!)
    ⟨k+1,1,d,rfl,rfl,Nat.le_refl _,by omega,by rw[p,List.length_take];omega,by omega,s,W,fun j _ _=>rfl⟩ ?_
   rintro Y2 A vs g1 z ⟨i,a,d1,rfl,rfl,H,I,w,S,s1,K,f⟩;refine yJ (fun O=>?_) (fun O=>?_)
   ·obtain⟨a,rfl⟩ : ∃ j,a=j+1:=⟨a-1,by omega⟩
    have y3:=s1.cellAt (o:=k+1) (i:=a+1) (by omega);have y4:=s1.cellAt (o:=k+1) (i:=a) (by omega);rw[f (k+1+(a+1)) (by omega) (by omega)]at y3;rw[f (k+1+a) (by omega) (by omega)]at y4;rw[wpred (by omega)];have g:=compact_take J (Ks (d:=d) (k:=k+1+a) (by omega)) (Ks (d:=d) (k:=k+1+(a+1)) (by omega));rw[show k+1+a+1=k+1+(a+1) by omega]at g;refine yI (fun E=>?_) (fun E=>?_)
    ·rw[if_neg (by simpa using E)]at g;refine gZ ?_;refine Ji s1 (i:=i) (by omega) fun P s2=>?_;rw[wsucc (by omega),wsucc (by omega)];refine Qa (z (n-(k+1)-(a+1+1)) _ _ (by omega) ⟨i+1,a+1+1,_,rfl,rfl,by omega,by omega,?_,by omega,s2,by rw[Array.size_setIfInBounds];exact K,fun j G q=>?_⟩)
     ·rw[show k+1+(a+1+1)=k+1+(a+1)+1 by omega,g,List.length_append,<- w];rfl
     ·rw[getElem!_pos (d1.setIfInBounds i _) j (by rw[Array.size_setIfInBounds];omega),Array.getElem_setIfInBounds_ne (by omega) (by omega),<- f j (by omega) q,getElem!_pos d1 j (by omega)]
    ·rw[if_pos (by simpa using E)]at g;rw[wsucc (by omega)];refine Qa (z (n-(k+1)-(a+1+1)) _ _ (by omega) ⟨i,a+1+1,d1,rfl,rfl,by omega,by omega,?_,by omega,s1,K,fun j G q=>f j (by omega) q⟩);rw[show k+1+(a+1+1)=k+1+(a+1)+1 by omega,g,<- w]
   ·have t:k+1+a=n:=by omega
    rw[t,List.take_of_length_le (by omega)]at w;obtain⟨cs,c1,c2,c3,c4⟩:=s1.cells;refine gZ ?_;refine Hd und50 inf3 (by omega) ?_;rw[if_neg (by omega),show (some (⟨r,0,none⟩ : Addr)).map (·.add (i*1))=some ⟨r,i,none⟩ by simp[Qh]];refine gZ ?_;refine t_clear und50 inf3 c1 (by omega) fun P t2 C=>?_;refine Hx und50 inf3 (by omega) ?_;refine gZ ?_;rw[w];refine Qe ⟨rfl,#[],⟨fun b y hb X=>?_,⟨t2.rest.1.trans s1.rest.1,t2.rest.2.1.trans s1.rest.2.1,t2.rest.2.2.trans s1.rest.2.2⟩,_,C,?_,by simp,fun i w=>by simp at w⟩⟩
    ·rw[t2.keep b hb];exact s1.keep b y hb X
    ·rw[<- c2];have:∀ (l:List Value) (cs:Array Value) (o:Nat),(setMany cs o l).size=cs.size:=by
      intro l
      induction l with
      | nil=>intro cs o;rfl
      | cons x l Z=>intro cs o;simp[setMany,Z]
     exact this _ _ _
  ·rw[if_neg (by simpa using D),e]at p;rw[wsucc (by omega)];refine Qa (R (n-(k+1+1)) _ _ (by omega) ⟨k+1+1,rfl,rfl,by omega,by omega,rfl,?_⟩);rw[p,List.take_add_one (i:=k+1),Ks (by omega)];rfl
 ·refine gZ ?_;have t:k=n:=by omega
  subst t;rw[List.take_of_length_le (by omega)]at e;rw[e,u];exact Qe ⟨rfl,d,s⟩
end Go.Y
end
section
namespace Go.TM
def Reads(cs:Array Value)(l:List Int):Prop:=∀ (i:Nat) y,l[i]?=some y->cs[i]?=some (.int .i64 y)
end Go.TM
namespace Go.Y.Tre
open Go.Sort
attribute [local irreducible] T.wp CV FWK
theorem c2092{h:LH}{r c:Nat}{el:TypeId}{cs:Array Value}{l:List Int}(hr:Reads cs l)(t:l.length<=12)(p:l.length<=cs.size)(o:h.get r=some (true,.cells cs el (0,0))) :
  FW X0 Tryz.prog 127 #[.slice (some ⟨r,0,none⟩) l.length c] h fun v h'=>v=.tuple #[] /\
   ∃ d m,d.size=cs.size/\Reads d m/\m.Perm l/\m.Pairwise (·<=·)/\h'.get r=some (true,.cells d el (0,0))/\(∀ b y,b≠r->h.get b=some y->h'.get b=some y)/\h'.chans=h.chans/\h'.pend=h.pend/\h'.todo=h.todo:=by
 have j:RA cs l.toArray:=fun i k=>by
  refine hr i _ ?_;have:=Ks k;rwa[List.toList_toArray]at this
 have st:DSt h r el cs.size l.toArray h:=DSt.self o (by simpa using p) j;have hc:=Go.Y.c2092 (c:=c) st (by simp;omega);have f:=sortInt l;have q:(Go.Sort.sort ltInt l.toArray).size=l.length:=by rw[(sort_sorts ltInt swo_ltInt _).1.1,List.size_toArray]
 rw[List.size_toArray]at hc;generalize Go.Sort.sort ltInt l.toArray=S at *;refine FW.mono hc ?_;rintro v h' ⟨rfl,s2⟩;obtain⟨d,h1,h2,h3,n⟩:=s2.cells;refine⟨rfl,d,S.toList,h2,fun i y s=>?_,?_,?_,h1,s2.keep,s2.rest.1,s2.rest.2.1,s2.rest.2.2⟩
 ·obtain⟨k,e⟩:=List.getElem?_eq_some_iff.1 s;have g:i<S.size:=by simpa using k
  rw[n i g,getElem!_pos S i g,<- e,Array.getElem_toList]
 ·rw[f];exact List.mergeSort_perm _ _
 ·rw[f];have:=List.pairwise_mergeSort (le:=fun x y:Int=>decide (x<=y)) (fun a b c h1 h2=>by simp at *;omega) (fun a b=>by simp;omega) l;exact this.imp fun h=>of_decide_eq_true h
end Go.Y.Tre
end
section
namespace Go.TM
variable {P:Program} {X:XP} {Q:Leaf->LH->Prop}
inductive Chain{S:Type}(nx:S->List Value->S->Prop)(s₀:S):List Int->S->Prop
 | nil:Chain nx s₀ [] s₀
 | snoc {l:List Int} {s s':S} {v:Int}:Chain nx s₀ l s->nx s [.int .i64 v] s'->Chain nx s₀ (l++[v]) s'
variable {es:Array MapEntry}{c:Nat}{l acc:List Int}
theorem chain_keys(k:Keys es c l){seen:Array Nat}(h:Chain (NextKey es) #[] acc seen) :
  ∃ E:List MapEntry,(∀ e∈E,e∈es.toList)/\acc.map (Value.int .i64)=E.map (·.key)/\seen.toList=E.map (·.born)/\(E.map (·.born)).Nodup:=by
 induction h with
 | nil=>exact⟨[],by simp,rfl,rfl,List.nodup_nil⟩
 | snoc h m n =>
  obtain⟨E,h1,h2,h3,j⟩:=n;obtain⟨e,he,hb,g,rfl⟩:=m;refine⟨E++[e],fun a d=>?_,?_,?_,?_⟩
  ·rcases List.mem_append.1 d with d|d
   ·exact h1 a d
   ·simp at d;subst d;exact he
  ·simp only[List.cons.injEq,and_true]at g;rw[List.map_append,List.map_append,h2];simp[g]
  ·simp[h3]
  ·rw[List.map_append];refine List.nodup_append.2 ⟨j,by simp,fun a d b f i=>?_⟩;simp at f;subst f;subst i;rw[h3]at hb;exact hb d
theorem nodup_key(k:Keys es c l):∀ e∈es.toList,∀ d∈es.toList,e.key=d.key->e.born=d.born:=by
 have n:(es.toList.map (·.key)).Nodup:=by
  rw[k.keys];rw[List.nodup_iff_pairwise_ne,List.pairwise_map];exact(List.nodup_iff_pairwise_ne.1 k.nodup).imp fun g he=>g (by cases he;rfl)
 intro e he d f heq;obtain⟨i,h,b⟩:=List.getElem_of_mem he;obtain⟨j,m,a⟩:=List.getElem_of_mem f;have:=(List.getElem_inj (xs:=es.toList.map (·.key)) (i:=i) (j:=j) (h₀:=by simpa using h) (h₁:=by simpa using m) n).1 (by simp[b,a,heq]);subst this;rw[b]at a;rw[a]
theorem chain_done(k:Keys es c l){seen:Array Nat}(h:Chain (NextKey es) #[] acc seen)(s:AllSeen es seen):acc.Nodup/\∀ v,v∈acc↔v∈l:=by
 obtain⟨E,h1,h2,h3,p⟩:=chain_keys k h;refine⟨?_,fun v=>?_⟩
 ·have h5:(acc.map (Value.int .i64)).Nodup:=by
   rw[h2,List.nodup_iff_pairwise_ne,List.pairwise_map];rw[List.nodup_iff_pairwise_ne,List.pairwise_map]at p;exact(List.Pairwise.and_mem.1 p).imp fun ⟨r,hb,a⟩ n=>a (nodup_key k _ (h1 _ r) _ (h1 _ hb) n)
  rw[List.nodup_iff_pairwise_ne,List.pairwise_map]at h5;rw[List.nodup_iff_pairwise_ne];exact h5.imp fun a e=>a (by rw[e])
 ·constructor
  ·intro hv;have:Value.int .i64 v∈acc.map (Value.int .i64):=List.mem_map.2 ⟨v,hv,rfl⟩;rw[h2]at this;obtain⟨e,he,n⟩:=List.mem_map.1 this;have d:e.key∈es.toList.map (·.key):=List.mem_map.2 ⟨e,h1 e he,rfl⟩;rw[k.keys,n]at d;obtain⟨w,hw,b⟩:=List.mem_map.1 d;cases b;exact hw
  ·intro hv;have:Value.int .i64 v∈l.map (Value.int .i64):=List.mem_map.2 ⟨v,hv,rfl⟩;rw[<- k.keys]at this;obtain⟨e,he,n⟩:=List.mem_map.1 this;have d:=s e he;rw[h3]at d;obtain⟨b,f,hb⟩:=List.mem_map.1 d;have o:b=e:=by
    obtain⟨i,t,g⟩:=List.getElem_of_mem (h1 b f);obtain⟨j,u,m⟩:=List.getElem_of_mem he;have:=(List.getElem_inj (xs:=es.toList.map (·.born)) (i:=i) (j:=j) (h₀:=by simpa using t) (h₁:=by simpa using u) k.born).1 (by simp[g,m,hb]);subst this;rw[<- g,<- m]
   subst o;have:b.key∈E.map (·.key):=List.mem_map.2 ⟨b,f,rfl⟩;rw[<- h2,n]at this;obtain⟨w,hw,q⟩:=List.mem_map.1 this;cases q;exact hw
def toCome(es:Array MapEntry)(seen:Array Nat):Nat:=(es.toList.filter fun e=>!seen.toList.contains e.born).length
theorem filter_less{α:Type}{p q:α->Bool}:∀ {l:List α},(∀ x∈l,q x=true->p x=true)->(∃ x∈l,p x=true/\q x=false)->(l.filter q).length<(l.filter p).length
 | [],_,⟨x,c,_⟩=>by simp at c
 | a::l,h1,⟨x,c,h2,h3⟩=>by
  have hle:∀ (l:List α),(∀ x∈l,q x=true->p x=true)->(l.filter q).length<=(l.filter p).length:=by
   intro l
   induction l with
   | nil=>intro _;simp
   | cons b l e =>
    intro h;have:=e fun x c=>h x (by simp[c]);rw[List.filter_cons,List.filter_cons];cases hb:q b with
    | true=>rw[h b (by simp) hb];simpa using this
    | false=>cases p b<;>simp<;>omega
  rw[List.filter_cons,List.filter_cons];rcases List.mem_cons.1 c with rfl|c
  ·rw[h2,h3];have:=hle l fun x c=>h1 x (by simp[c]);simp;omega
  ·have:=filter_less (l:=l) (fun y d=>h1 y (by simp[d])) ⟨x,c,h2,h3⟩;cases hb:q a with
   | true=>rw[h1 a (by simp) hb];simpa using this
   | false=>cases p a<;>simp<;>omega
theorem toCome_less{seen:Array Nat}{xs:List Value}{a:Array Nat}(h:NextKey es seen xs a):toCome es a<toCome es seen:=by
 obtain⟨e,he,hb,_,rfl⟩:=h;refine filter_less (fun x _ b=>?_) ⟨e,he,?_,?_⟩
 ·simp at b ⊢;exact b.1
 ·simpa using hb
 ·simp
end Go.TM
namespace Go.Y.Tre
open Go.TM.Tr
attribute [local irreducible] T.wp CV FWK
variable {h:LH}{m c:Nat}{es:Array MapEntry}{b:Bool}{l:List Int}{seq:Value}
theorem c2081(m:Nat):Gr Tryz.prog 139 #[.map (some m)] h fun r h'=>∃ a,r=.func (.func 180) #[] #[.pointer (some a)]/\h'.get.cell? a=some (.map (some m)):=by
 refine w2081 Qn ?_;refine J1 fun r hr=>?_;exact Qe ⟨Qp hr,_,rfl,Qs rfl⟩
theorem hands2093{X:XP}(z:XOK X){h₀:LH}{G:Addr}(O:h₀.get.cell? G=some (.map (some m)))(hm:h₀.get m=some (b,.map es c))(k:Keys es c l) :
  HandsG X Tryz.prog (.func (.func 180) #[] #[.pointer (some G)]) h₀ (NextKey es) (AllSeen es) #[]:=by
 intro y J E L K g h hle v;refine Kq z (by rfl) (?_:FW X Tryz.prog 180 #[y,.pointer (some G)] h _);refine w2093 z ?_;have F:=Qc hle.1 O;refine gL4 F ?_;refine t_range undMap (hle.1 _ _ hm) fun r hr=>?_;refine gZ ?_;have D:({ h with get:=h.get.upd r (true,.mapIter (some m) c #[] c) }:LH)={ h with get:=h.get.add (oneC r (.mapIter (some m) c #[] c)) }:=by
  have:h.get.upd r (true,.mapIter (some m) c #[] c)=h.get.add (oneC r (.mapIter (some m) c #[] c)):=by
   funext a;unfold Cells.upd Cells.add oneC;by_cases e:a=r
   ·subst e;simp[hr]
   ·simp[e];cases h.get a<;>rfl
  rw[this]
 rw[D];refine Qq (fun I vs h'=>∃ (seen:Array Nat) (hb:LH),vs=[]/\I=toCome es seen/\h'={ hb with get:=hb.get.add (oneC r (.mapIter (some m) c seen c)) }/\Disj hb.get (oneC r (.mapIter (some m) c seen c))/\h₀.le hb/\J seen hb)
  ⟨#[],h,rfl,rfl,rfl,G6 hr,hle,v⟩ ?_
 rintro Y I vs _ M ⟨seen,hb,rfl,rfl,rfl,H,d,j⟩;have f:=Wz H;refine gZ ?_;refine t_next (m:=m) (r:=r) (c:=c) (es:=es) (seen:=seen) (b:=b) (Zl f) (Qm (d.1 _ _ hm)) k.lt (fun o=>?_) fun e he C=>?_
 ·refine yF ?_;refine gZ ?_;refine Qe ⟨⟨fun a x A=>Qm (d.1 a x A),d.2⟩,.inl ⟨seen,o,?_⟩⟩;exact L seen hb _ j H
 ·rw[Kn f];have t:Disj hb.get (oneC r (.mapIter (some m) c (seen.push e.born) c)):=G6 f;refine yT ?_;refine gZ ?_;refine t_entry (m:=m) (r:=r) (c:=c) (es:=es) (seen:=seen) (e:=e) (b:=b) (Zl f) (Qm (d.1 _ _ hm)) he k.born ?_;obtain⟨kn,p⟩ : ∃ n:Int,e.key=.int .i64 n:=by
   have q:e.key∈es.toList.map (·.key):=List.mem_map.2 ⟨e,he,rfl⟩;rw[k.keys]at q;obtain⟨n,_,N⟩:=List.mem_map.1 q;exact⟨n,N.symm⟩
  rw[p];refine gZ ?_;have s:NextKey es seen [.int .i64 kn] (seen.push e.born):=⟨e,he,C,by rw[p],rfl⟩
  have B:=CV.frame z (g seen hb [.int .i64 kn] (seen.push e.born) d s j) t;refine J2 B ?_;rintro bv _ ⟨h3,d3,rfl,i,⟨rfl,w⟩|⟨rfl,u⟩⟩
  ·refine yF ?_;exact Qa (M _ _ _ (toCome_less s) ⟨_,h3,rfl,rfl,rfl,d3,i,w⟩)
  ·refine yT ?_;refine gZ ?_;exact Qe ⟨⟨fun a x A=>Qm (i.1 a x A),i.2⟩,.inr (K h3 _ u d3)⟩
theorem c2100{S:Type}{nx:S->List Value->S->Prop}{fin:S->Prop}{a:S}(μ:S->Nat)(e:∀ s xs d,nx s xs d->μ d<μ s)(hint:∀ s xs d,nx s xs d->∃ v,xs=[.int .i64 v])(hm:μ a<=1000)(l:HandsG X0 Tryz.prog seq h nx fin a) :
  Gr Tryz.prog 205 #[.slice none 0 0,seq] h fun r h'=>∃ p n c s acc,fin s/\Chain nx a acc s/\r=.slice p n c/\acc.length<=μ a/\Growing IntEnc 3 1 h.get h'.get p n c acc:=by
 refine w2100 Qn ?_;refine t_eachG μ e (LH.le_refl h) l (fun s vs h'=>∃ p n c acc,vs=[.slice p n c]/\Chain nx a acc s/\acc.length+μ s<=μ a/\Growing IntEnc 3 1 h.get h'.get p n c acc)
  ⟨none,0,0,[],rfl,.nil,by simp,Growing.nil⟩ ?_ ?_
 ·rintro s vs h' o hle ⟨p,n,c,acc,rfl,b,hlen,g⟩;refine gZ ?_;exact Qe ⟨hle,p,n,c,s,acc,o,b,rfl,by omega,g⟩
 ·rintro s xs d vs h' i hle ⟨p,n,c,acc,rfl,b,hlen,g⟩ Y m;obtain⟨v,rfl⟩:=hint s xs d i;have q:=e _ _ _ i;have t:=g.count IntEnc.len (by omega);refine gZ ?_;refine Gd v [.int .i64 v] rfl rfl und50 inf3 rfl (by omega) (by decide) (by kernel_rfl) rfl (by simp;rfl) (by omega) g hle rfl ?_;intro u j h3 f _ k;refine gZ ?_;exact Jk f (m _ _ f ⟨u,n+1,j,acc++[v],rfl,b.snoc i,by simp;omega,k⟩)
theorem c2091{S:Type}{nx:S->List Value->S->Prop}{fin:S->Prop}{a:S}(μ:S->Nat)(d:∀ s xs b,nx s xs b->μ b<μ s)(hint:∀ s xs b,nx s xs b->∃ v,xs=[.int .i64 v])(hm:μ a<=1000)(g:HandsG X0 Tryz.prog seq h nx fin a) :
  Gr Tryz.prog 179 #[seq] h fun r h'=>∃ p n c s acc,fin s/\Chain nx a acc s/\r=.slice p n c/\acc.length<=μ a/\Growing IntEnc 3 1 h.get h'.get p n c acc:=by
 refine w2091 Qn ?_;refine t_gr (c2100 μ d hint hm g) ?_;rintro _ h1 e ⟨p,n,c,s,acc,h2,h3,rfl,f,h5⟩;refine gZ ?_;exact Qe ⟨e,p,n,c,s,acc,h2,h3,rfl,f,h5⟩
theorem rows_reads{vs:List Value}(r:Go.TM.Rows IntEnc vs l):vs=l.map (Value.int .i64):=by
 induction r with
 | nil=>rfl
 | snoc r he a=>rw[he,a];simp
theorem grown{h₀ h:Cells}{p:Option Addr}{n:Nat}(g:Growing IntEnc 3 1 h₀ h p n c l)(u:l≠[]):∃ r cs,p=some ⟨r,0,none⟩/\h=h.upd r (true,.cells cs 3 (0,0))/\h₀ r=none/\n=l.length/\n<=c/\cs.size=c*1/\Reads cs l /\
  ∀ d f (h':Cells),d.size=cs.size->Reads d f->f.length=l.length->h' r=some (true,.cells d 3 (0,0))->Growing IntEnc 3 1 h₀ h' p n c f:=by
 have B:=g.count IntEnc.len (by omega);obtain⟨vs,⟨h1,h2⟩,h3⟩:=g.row;have A:=rows_reads h3;rcases h2 with⟨_,h2,_⟩|⟨r,cs,rfl,hr,m,s,hv⟩
 ·exfalso;apply u;exact List.eq_nil_of_length_eq_zero (by omega)
 ·refine⟨r,cs,rfl,?_,g.new _ rfl,B,s,m,?_,?_⟩
  ·funext a;unfold Cells.upd;by_cases e:a=r
   ·subst e;simp[hr]
   ·simp[e]
  ·intro i y t;refine hv i _ ?_;rw[A,List.getElem?_map,t];rfl
  ·intro d f h' z x hlen w;have rows:∀ l:List Int,Go.TM.Rows IntEnc (l.map (Value.int .i64)) l:=by
    intro l;have:∀ (k:Nat) (l:List Int),l.length=k->Go.TM.Rows IntEnc (l.map (Value.int .i64)) l:=by
     intro k
     induction k with
     | zero=>intro l q;rw[List.eq_nil_of_length_eq_zero q];exact .nil
     | succ k C =>
      intro l q;obtain⟨a,b,rfl⟩ : ∃ a b,l=a++[b]:=⟨l.dropLast,l.getLast (by intro e;subst e;simp at q),(List.dropLast_concat_getLast _).symm⟩
      rw[List.map_append];exact Go.TM.Rows.snoc (C a (by simp at q;exact q)) rfl
    exact this _ l rfl
   refine⟨⟨f.map (Value.int .i64),⟨by rw[List.length_map];omega,.inr ⟨r,d,rfl,w,by rw[z];exact m,s,fun j v o=>?_⟩⟩,rows f⟩,g.new⟩;rw[List.getElem?_map]at o;cases t:f[j]? with
   | none=>rw[t]at o;cases o
   | some y=>rw[t]at o;cases o;exact x j y t
theorem c2059(hm:h.get m=some (b,.map es c))(k:Keys es c l)(E:l≠[])(Y:l.length<=12) :
  Gr Tryz.prog 86 #[.map (some m)] h fun r h'=>∃ p n c acc,r=.slice p n c/\Sl IntE 1 h'.get p n acc/\n<=c/\acc.Pairwise (·<·)/\∀ v,v∈acc↔v∈l:=by
 refine w2059 Qn ?_;refine t_gr (c2081 m) ?_;rintro _ h1 u ⟨X,rfl,V⟩;have hlen:es.toList.length=l.length:=by
  have:=congrArg List.length k.keys;simpa using this
 have hu:toCome es #[]<=12:=by
  unfold toCome;have:=List.length_filter_le (fun e:MapEntry=>!(#[]:Array Nat).toList.contains e.born) es.toList;omega
 have sorted:Gr Tryz.prog 138 #[.func (.func 180) #[] #[.pointer (some X)]] h1 fun r h'=>∃ p n c acc,r=.slice p n c/\Sl IntE 1 h'.get p n acc/\n<=c/\acc.Pairwise (·<·)/\∀ v,v∈acc↔v∈l:=by
  refine w2080 Qn ?_;refine t_gr (c2091 (toCome es) (fun s xs W h=>toCome_less h) ?_ (by omega) (hands2093 Qn V (u.1 _ _ hm) k)) ?_
  ·rintro s xs W ⟨e,he,_,rfl,_⟩;have:e.key∈es.toList.map (·.key):=List.mem_map.2 ⟨e,he,rfl⟩;rw[k.keys]at this;obtain⟨v,_,hv⟩:=List.mem_map.1 this;exact⟨v,by rw[hv]⟩
  ·rintro _ h2 f ⟨p,n,c,s,acc,U,A,rfl,R,g⟩;obtain⟨D,i⟩:=chain_done k A U;have q:acc≠[]:=by
    rintro rfl;apply E;exact List.eq_nil_iff_forall_not_mem.2 fun v hv=>by simpa using (i v).2 hv
   obtain⟨r,cs,rfl,J,F,rfl,C,S,G,o⟩:=grown g q;refine gZ ?_;have B:h2.get r=some (true,.cells cs 3 (0,0)):=by
    have:=congrFun J r;rwa[Qd]at this
   refine Qz (c2092 G (by omega) (by omega) B) ?_;rintro _ h3 ⟨rfl,w,K,I,t,d,H,y,keep,M,N,O⟩;refine gZ ?_;have g':=o w K h3.get I t d.length_eq y;refine Qe ⟨?_,_,_,c,K,rfl,g'.sl IntEnc.len (by omega) IntEnc.e (by rw[d.length_eq];omega),C,?_,fun v=>by rw[d.mem_iff,i]⟩
   ·exact⟨fun a x z=>keep a x (by rintro rfl;rw[F]at z;cases z) (f.1 a x z),by rw[M];exact f.2.1,by rw[N];exact f.2.2.1,by rw[O];exact f.2.2.2⟩
   ·have j:K.Nodup:=d.nodup_iff.2 D;rw[List.nodup_iff_pairwise_ne]at j;exact(H.and j).imp fun ⟨h1,h2⟩=>by omega
 refine t_gr sorted ?_;rintro _ h2 f ⟨p,n,L,acc,rfl,h3,P,h5,Q⟩;refine gZ ?_;exact Qe ⟨LH.le_trans u f,p,n,L,acc,rfl,h3,P,h5,Q⟩
end Go.Y.Tre
end
section
namespace Go.TM
theorem U0:∀ {l m:List Int},l.Nodup->(∀ v∈l,v∈m)->l.length<=m.length
 | [],m,_,_=>Nat.zero_le _
 | a::l,m,e,d=>by
  have c:=d a (by simp);have b:=List.nodup_cons.1 e;have:=U0 (l:=l) (m:=m.erase a) b.2 fun v hv=>by
   rw[List.mem_erase_of_ne]
   ·exact d v (by simp[hv])
   ·rintro rfl;exact b.1 hv
  have h2:=List.length_erase_of_mem c;have h3:=List.length_pos_of_mem c;simp only[List.length_cons];omega
def SpE(h:Cells)(a:Addr)(s:Tr.Sp):Prop:=h.cell? (a.add 0)=some (.int .i64 s.first)/\h.cell? (a.add 1)=some (.int .i64 s.last)
def SpEnc(s:Tr.Sp)(ws:List Value):Prop:=ws=[.int .i64 s.first,.int .i64 s.last]
theorem SpE.grow:Grow SpE:=fun _ _ _ _ a h=>⟨a _ _ h.1,a _ _ h.2⟩
theorem SpEnc.len:∀ d ws,SpEnc d ws->ws.length=2:=by rintro d _ rfl;rfl
theorem SpEnc.e{h':Cells}:∀ a d ws,SpEnc d ws->(∀ (j:Nat) w,ws[j]?=some w->h'.cell? (a.add j)=some w)->SpE h' a d:=by
 rintro a d _ rfl hc;exact⟨hc 0 _ rfl,hc 1 _ rfl⟩
theorem Rows.last{α:Type}{Enc:α->List Value->Prop}{vs:List Value}{l:List α}{x:α}(r:Rows Enc vs (l++[x])):∃ us ws,vs=us++ws/\Rows Enc us l/\Enc x ws:=by
 generalize he:l++[x]=m at r;cases r with
 | nil=>simp at he
 | snoc r a =>
  rename_i us b y ws;have:=List.append_inj' he rfl;obtain⟨rfl,h2⟩:=this;simp at h2;subst h2;exact⟨us,ws,rfl,r,a⟩
theorem Growing.lastSp{el:TypeId}{h₀ h:Cells}{p:Option Addr}{n c:Nat}{out:List Tr.Sp}{s:Tr.Sp}(g:Growing SpEnc el 2 h₀ h p n c (out++[s])) :
  ∃ r cs,p=some ⟨r,0,none⟩/\h r=some (true,.cells cs el (0,0))/\h₀ r=none/\n=out.length+1/\2*out.length+1<cs.size/\cs[2*out.length+1]?=some (.int .i64 s.last) /\
   ∀ v:Int,Growing SpEnc el 2 h₀ (h.upd r (true,.cells (cs.setIfInBounds (2*out.length+1) (.int .i64 v)) el (0,0))) p n c (out++[⟨s.first,v⟩]):=by
 have l:=g.count SpEnc.len (by omega);obtain⟨vs,⟨h1,h2⟩,h3⟩:=g.row;obtain⟨us,ws,rfl,k,rfl⟩:=h3.last;have i:=k.len SpEnc.len;rcases h2 with⟨_,h2,_⟩|⟨r,cs,rfl,hr,d,f,hv⟩
 ·simp at l;omega
 ·have b:n=out.length+1:=by simpa using l
  have hc1:cs[2*out.length+1]?=some (.int .i64 s.last):=by
   refine hv _ _ ?_;rw[List.getElem?_append_right (by omega)];rw[show 2*out.length+1-us.length=1 by omega];rfl
  refine⟨r,cs,rfl,hr,g.new _ rfl,b,(Array.getElem?_eq_some_iff.1 hc1).1,hc1,fun v=>?_⟩;refine⟨⟨us++[.int .i64 s.first,.int .i64 v],⟨by rw[List.length_append,i,b];simp;omega,.inr ⟨r,_,rfl,Qd _ _ _,by simp;exact d,f,fun j w a=>?_⟩⟩,Rows.snoc (x:=(⟨s.first,v⟩ : Tr.Sp)) (ws:=[.int .i64 s.first,.int .i64 v]) k rfl⟩,g.new⟩;by_cases e:j=2*out.length+1
  ·subst e;rw[Array.getElem?_setIfInBounds_self_of_lt (Array.getElem?_eq_some_iff.1 hc1).1];rw[List.getElem?_append_right (by omega),show 2*out.length+1-us.length=1 by omega]at a;exact a
  ·rw[Array.getElem?_setIfInBounds_ne (Ne.symm e)];refine hv j w ?_;by_cases m:j<us.length
   ·rw[List.getElem?_append_left m]at a ⊢;exact a
   ·rw[List.getElem?_append_right (by omega)]at a ⊢
    match o:j-us.length,a with
    | 0,a=>exact a
    | 1,a=>omega
    | q+2,a=>simp at a
end Go.TM
namespace Go.Y.Tre
open Go.TM.Tr
attribute [local irreducible] T.wp CV FWK
def SpansR(h:Cells)(x:TF)(k i:Int)(r:Value):Prop :=
 (Q9 x k i≠0/\r=.tuple #[.slice none 0 0,.int .i64 (Q9 x k i)]) \/
 (Q9 x k i=0/\∃ p n c l,r=.tuple #[.slice p n c,.int .i64 0]/\IsDays x l/\Sl SpE 2 h p n (spansT x k i l)/\n<=c)
theorem join_none{d e:Int}:join [] d e=[⟨d,e-1⟩]:=rfl
theorem join_last{out:List Sp}{s:Sp}{d e:Int}:join (out++[s]) d e=if s.last=d-1 then out++[⟨s.first,e-1⟩] else (out++[s])++[⟨d,e-1⟩]:=by
 unfold join;simp
theorem c2023{h:LH}(hk:Kinds h.get){f:TC}{x:TF}(hx:TreatyR h.get f x)(k i:Int):Gr Tryz.prog 43 #[treatyV f x,.int .i64 k,.int .i64 i] h fun r h'=>SpansR h'.get x k i r:=by
 refine w2023 Qn ?_;refine t_pu (c2058 hk hx k i) ?_;refine yI (fun e=>?_) (fun e=>?_)
 ·exact Qe ⟨LH.le_refl _,.inl ⟨by simpa using e,rfl⟩⟩
 have e0:Q9 x k i=0:=by simpa using e
 have r1:=(G8 (askedItem_ok e0).1).1;have rt:=Right.of r1;have q2:=rt.many;have hn:=hx.2.1;refine Wy fun m j2=>?_;have H:∀ {h':LH} {o:Obj},h.le h'->h.le { h' with get:=h'.get.upd m (true,o) }:=by
  intro h' o hl;refine⟨fun a y U=>?_,hl.2⟩;have:a≠m:=by rintro rfl;rw[j2]at U;cases U
  show Cells.upd _ _ _ a=_;rw[Qk _ _ this];exact hl.1 a y U
 refine gZ ?_;refine Yg (l:=[]) undMap i64_3 ⟨#[],0,Qd _ _ _,Keys.nil⟩ fun V c1 l1 m2 k1 x1=>?_;refine Yg (l:=l1) undMap i64_3 ⟨V,c1,m2,k1⟩ fun W c2 l2 o2 k2 y1=>?_;have b3:=H (o:=.map W c2) (H (o:=.map V c1) (H (o:=.map #[] 0) (LH.le_refl h)));refine Qq (fun mm vs h'=>h.le h'/\∃ (j:Nat) (es:Array MapEntry) (c:Nat) (l:List Int),vs=[.int .i64 j]/\j<=f.n/\mm=f.n-j/\h'.get m=some (true,.map es c)/\Keys es c l/\∀ v,v∈l↔v=0\/v=10000\/∃ e∈x.events.take j,e.day=v)
  ⟨b3,0,W,c2,l2,rfl,Nat.zero_le _,rfl,o2,k2,fun v=>by rw[y1,x1];simp;omega⟩ ?_
 rintro Y mm vs h3 hY ⟨O,j,es,c,l,rfl,hj,rfl,q0,k3,A⟩;refine yJ (fun e1=>?_) (fun e1=>?_)
 ·obtain⟨e,a,he,U,g0,g1,g2,⟨q,P,cq,g3,g6,g5⟩,g4⟩:=(hx.2.le EventE.grow O.1).at (i:=j) (by omega);refine gZ ?_;refine Yg (l:=l) undMap i64_3 ⟨es,c,q0,k3⟩ fun o1 u l' b2 k' u1=>?_;refine Qa (hY (f.n-(j+1)) _ _ (by omega) ⟨H O,j+1,o1,u,l',?_,by omega,rfl,b2,k',fun v=>?_⟩)
  ·rw[Qj (by omega) (by omega)];rfl
  ·rw[u1,A,List.take_add_one,he];simp only[List.mem_append,Option.toList,List.mem_singleton];constructor
   ·rintro(rfl|h1|h1|⟨e',h1,h2⟩)
    ·exact .inr (.inr ⟨e,.inr rfl,rfl⟩)
    ·exact .inl h1
    ·exact .inr (.inl h1)
    ·exact .inr (.inr ⟨e',.inl h1,h2⟩)
   ·rintro(h1|h1|⟨e',h1|rfl,h2⟩)
    ·exact .inr (.inl h1)
    ·exact .inr (.inr (.inl h1))
    ·exact .inr (.inr (.inr ⟨e',h1,h2⟩))
    ·exact .inl h2.symm
 ·refine gZ ?_;rw[List.take_of_length_le (by omega)]at A;have l0:l.length<=12:=by
   have:=U0 (m:=0::10000::x.events.map (·.day)) k3.nodup fun v hv=>by
    rcases(A v).1 hv with rfl|rfl|⟨e,he,rfl⟩
    ·simp
    ·simp
    ·simp only[List.mem_cons,List.mem_map];exact .inr (.inr ⟨e,he,rfl⟩)
   simp at this;omega
  have o0:l≠[]:=by
   rintro rfl;have:=(A 0).2 (.inl rfl);simp at this
  refine t_gr (c2059 q0 k3 o0 l0) ?_;rintro _ R j3 ⟨p,n,u,days,rfl,hs,u3,y0,I⟩;have F:IsDays x days:=⟨y0,fun v=>by rw[I,A]⟩
  have r3:=hs.1;have o3:2<=days.length:=by
   have h0:(0:Int)∈days:=(F.mem 0).2 (.inl rfl);have h1:(10000:Int)∈days:=(F.mem 10000).2 (.inr (.inl rfl))
   match days,h0,h1 with
   | [],h0,_=>simp at h0
   | [a],h0,h1=>simp at h0 h1;omega
   | a::b::l,_,_=>simp
  have l3:days.length<=12:=by
   have:=U0 (m:=l) (y0.imp fun h=>by omega) fun v hv=>(I v).1 hv;omega
  have hbound:∀ v∈days,0<=v/\v<=10000:=by
   intro v hv;rcases(F.mem v).1 hv with rfl|rfl|⟨e,he,rfl⟩
   ·omega
   ·omega
   ·have:=rt.ok e he;omega
  have j1:=LH.le_trans O j3;refine gZ ?_;have hw:wrap .i64 ((n:Int)-1)=((n-1:Nat):Int):=by rw[Qj (by omega) (by omega)];omega
  rw[hw];refine Hx und50 inf3 (by omega) ?_;refine gZ ?_;refine Qq (fun mm vs h'=>R.le h'/\∃ (j:Nat) (q:Option Addr) (m cc:Nat) (out:List Sp),vs=[.slice q m cc,.int .i64 j]/\j<=n-1/\mm=n-1-j/\out.length<=j/\Growing SpEnc 29 2 R.get h'.get q m cc out/\spansT x k i days=spansGo (fun d=>decide (0<=dateOn x k i d)) (days.drop j) out)
   ⟨LH.le_refl _,0,none,0,0,[],rfl,Nat.zero_le _,rfl,Nat.le_refl _,Growing.nil,rfl⟩ ?_
  clear hY e1 hj;rintro Y mm vs h5 hY ⟨G,j,q,P,cc,out,rfl,hj,rfl,s0,g,hc⟩;have C:=LH.le_trans j1 G;have r2:=g.count SpEnc.len (by omega);have next:∀ h' q' m' u t,R.le h'->j+1<=n-1->t.length<=j+1->Growing SpEnc 29 2 R.get h'.get q' m' u t->spansT x k i days=spansGo (fun d=>decide (0<=dateOn x k i d)) (days.drop (j+1)) t->Y [.slice q' m' u,.int .i64 (wrap .i64 ((j:Int)+1))] h':=by
   intro h' q' m' u t m0 z1 u0 g' q1;refine hY (n-1-(j+1)) _ _ (by omega) ⟨m0,j+1,q',m',u,t,?_,by omega,rfl,u0,g',q1⟩;rw[Qj (by omega) (by omega)];rfl
  refine yJ (fun e2=>?_) (fun e2=>?_)
  ·obtain⟨d,a,hd,U,e3⟩:=(hs.le IntE.grow G.1).at (i:=j) (by omega);obtain⟨d2,a2,z,a0,e4⟩:=(hs.le IntE.grow G.1).at (i:=j+1) (by omega);unfold IntE at e3 e4;rw[U]at a0;cases a0;have z2:wrap .i64 ((j:Int)+1)=((j+1:Nat):Int):=by rw[Qj (by omega) (by omega)];rfl
   rw[Jd hd,Jd z,spansGo]at hc;rw[<- Jd z]at hc;have q3:=hbound d (List.mem_of_getElem? hd);have m3:=hbound d2 (List.mem_of_getElem? z);rw[z2]at next ⊢
   refine gZ ?_;refine t_gr (c2060 (hk.le C.1) (hx.le C.1) rt k i d) ?_;rintro _ S m1 rfl;have w:=LH.le_trans G m1;have g6:=g.le m1.1;refine yJ (fun e5=>?_) (fun e5=>?_)
   ·rw[if_neg (by simp;omega)]at hc;exact Qa (next S q P cc out w (by omega) (by omega) g6 hc)
   ·rw[if_pos (by simp;omega)]at hc;have y2:wrap .i64 (d2-1)=d2-1:=Qj (by omega) (by omega);have a1:wrap .i64 (d-1)=d-1:=Qj (by omega) (by omega);rw[y2,a1];have push:spansT x k i days=spansGo (fun d=>decide (0<=dateOn x k i d)) (days.drop (j+1)) (out++[⟨d,d2-1⟩])->∀ {K:Value->T} {Q:Leaf->LH->Prop},(∀ J u h',R.le h'->Growing SpEnc 29 2 R.get h'.get J (P+1) u (out++[⟨d,d2-1⟩])->(K (.slice J (P+1) u)).wp X0 Tryz.prog Q h') ->
      (T.sem false (Instr.buildSlice 22 1 #[(0,.agg #[.int .i64 d,.int .i64 (d2-1)])]) fun v=>T.unS v fun a m mc=>T.sem false (Builtin.append_ #[22,22] 22 #[.slice q P cc,.slice a m mc]) K).wp X0 Tryz.prog Q S:=by
     intro _ K Q hK;refine Gd (⟨d,d2-1⟩ : Sp) [.int .i64 d,.int .i64 (d2-1)] rfl rfl und22 inf30 rfl (by omega) (by decide) (by kernel_rfl) rfl (by simp;exact⟨rfl,rfl⟩) (by omega) g6 w rfl ?_;intro J u Z D _ X;exact hK J u Z D X
    refine t_if (fun e6=>?_) (fun e6=>?_)
    ·obtain⟨t,s,rfl⟩ : ∃ t s,out=t++[s]:=⟨out.dropLast,out.getLast (by rintro rfl;simp at r2;omega),(List.dropLast_concat_getLast _).symm⟩
     obtain⟨r,cs,rfl,B,x2,n3,z1,j0,x0⟩:=g6.lastSp;have a3:wrap .i64 ((P:Int)-1)=(t.length:Int):=by rw[Qj (by omega) (by omega)];omega
     have M:S.get.cell? ((Addr.add ⟨r,0,none⟩ ((t.length:Int).toNat*2)).add 1)=some (.int .i64 s.last):=by
      rw[Qh,Qh];have:0+(t.length:Int).toNat*2+1=2*t.length+1:=by simp;omega
      rw[this];simp only[Cells.cell?,B,Option.isSome_none,Bool.false_eq_true,if_false];exact j0
     rw[join_last]at hc;rw[a3];refine gT (by omega) (gS2 rfl (gL0 M ?_));refine Qt (fun e7=>?_) (fun e7=>?_)
     ·rw[if_pos (by simpa using e7)]at hc;refine gT (by omega) (gS2 rfl ?_);have L:((Addr.add ⟨r,0,none⟩ ((t.length:Int).toNat*2)).add 1).add 0=⟨r,2*t.length+1,none⟩:=by
       rw[Qh,Qh,Qh];have:0+(t.length:Int).toNat*2+1+0=2*t.length+1:=by simp;omega
       rw[this]
      rw[L];have E:S.get.cell? ⟨r,2*t.length+1,none⟩=some (.int .i64 s.last):=by
       simp only[Cells.cell?,B,Option.isSome_none,Bool.false_eq_true,if_false];exact j0
      refine K6 rfl ⟨_,B⟩ E (by simp[Cells.frozen?,B]) ?_;have z0:S.get.setCell ⟨r,2*t.length+1,none⟩ (.int .i64 (d2-1))=S.get.upd r (true,.cells (cs.setIfInBounds (2*t.length+1) (.int .i64 (d2-1))) 29 (0,0)):=by
       funext b;unfold Cells.setCell Cells.upd;by_cases e:b=r
       ·subst e;simp[B]
       ·simp[e]
      rw[z0];refine Qa (next _ _ _ _ (t++[⟨s.first,d2-1⟩]) ?_ (by omega) (by simp at s0 ⊢;omega) (x0 (d2-1)) hc);refine⟨fun b y hb=>?_,w.2⟩;have u2:b≠r:=by rintro rfl;rw[x2]at hb;cases hb
      show Cells.upd _ _ _ b=_;rw[Qk _ _ u2];exact w.1 b y hb
     ·rw[if_neg (by simpa using e7)]at hc;refine push hc fun J u Z D X=>?_;refine gZ ?_;exact Qa (next Z J _ u _ D (by omega) (by simp at s0 ⊢;omega) X hc)
    ·have w0:out=[]:=List.eq_nil_of_length_eq_zero (by omega);subst w0;rw[join_none]at hc;refine push hc fun J u Z D X=>?_;refine gZ ?_;exact Qa (next Z J _ u _ D (by omega) (by simp) X hc)
  ·refine gZ ?_;have s3:j=n-1:=by omega
   have k0:spansT x k i days=out:=by
    rw[hc];have N:(days.drop j).length=1:=by rw[List.length_drop];omega
    match hd:days.drop j,N with
    | [d],_=>rfl
   refine Qe ⟨C,.inr ⟨e0,q,P,cc,days,rfl,F,?_,?_⟩⟩
   ·rw[k0];exact g.sl SpEnc.len (by omega) SpEnc.e (by omega)
   ·obtain⟨vs,o,_⟩:=g.row;exact o.le_cap
end Go.Y.Tre
end
section
namespace Go.TM
variable {P:Program}
variable {h:LH}{v:Value}
theorem setCell_at{h:Cells}{r i:Nat}{m:Bool}{cs:Array Value}{el:TypeId}(hr:h r=some (m,.cells cs el (0,0))):h.setCell ⟨r,i,none⟩ v=h.upd r (m,.cells (cs.setIfInBounds i v) el (0,0)):=by
 funext b;unfold Cells.setCell Cells.upd;by_cases e:b=r
 ·subst e;simp[hr]
 ·simp[e]
theorem t_newSt2{X:XP}{Q:Leaf->LH->Prop}{e:TypeId}{v₀:Value}{k:Nat->T}(h1:isOne v=true)(b:∀ r h',h.le h'->h.get r=none->h'.get=h.get.upd r (true,.cells #[v] e (0,0))->h'.get.cell? ⟨r,0,none⟩=some v->(k r).wp X P Q h') :
  (T.new e #[v₀] fun r=>T.store (Addr.add ⟨r,0,none⟩ 0) v (k r)).wp X P Q h:=by
 refine J1 fun r hr=>?_;have a:Addr.add (⟨r,0,none⟩ : Addr) 0=⟨r,0,none⟩:=by rw[Qh]
 rw[a];refine t_storeU (o:=0) rfl h1 (by simp) ?_;have:(#[v₀]:Array Value).setIfInBounds 0 v=#[v]:=rfl;rw[this];exact b r _ (Qp hr) hr rfl (Qs rfl)
theorem cell_freeze2(F:Nat->Bool)(h:Cells)(a:Addr):(freezeC F h).cell? a=h.cell? a:=by
 unfold Cells.cell? freezeC;cases h a.block with
 | none=>rfl
 | some x=>obtain⟨m,o⟩:=x;cases o<;>rfl
theorem rd_freeze2(F:Nat->Bool)(h:Cells):Rd h (freezeC F h):=fun a v hc=>by rw[cell_freeze2];exact hc
theorem rd_drop2{h:Cells}{c s:Nat}(b:h c=some (true,.chan 0 #[] false s s false)):Rd h (dropC h c):=by
 intro a v hc;unfold Cells.cell? dropC at *;by_cases e:a.block=c
 ·rw[e,b]at hc;cases hc
 ·rw[if_neg e];exact hc
def Y9(q1 q2:Nat)(h:LH):Prop:=(h.chans=[]/\q1≠q2/\(∃ s,h.get q1=some (true,.chan 0 #[] false s s false))/\∃ s,h.get q2=some (true,.chan 0 #[] false s s false))\/h.chans=[q2,q1]
theorem Y9.le{f g:Nat}{h h':LH}(e:h.le h')(i:Y9 f g h):Y9 f g h':=by
 rcases i with⟨a,b,⟨s,c⟩,t,d⟩|a
 ·exact .inl ⟨by rw[e.2.1,a],b,⟨s,e.1 _ _ c⟩,t,e.1 _ _ d⟩
 ·exact .inr (by rw[e.2.1,a])
theorem spawnW_two{f:FuncId}{cap:Array Value}{Q:LH->Prop}{s:Script}(d g:Nat)(a:[]∉h.pend)(l:Y9 d g h)(k:s≠[])(p:∀ y∈s,y.1=d\/y.1=g)(c:∀ hc,Rd h.get hc->FWK XW P .deferred f cap ⟨hc,[],[],s⟩ fun _ _=>False)
 (n:∀ h',Rd h.get h'.get->h'.chans=[g,d]->h'.todo=h.todo->h'.pend=h.pend++[s]->Q h'):SpawnW XT P (.func (.func f) #[] cap) #[] h Q:=by
 have key:∀ h1:LH,Rd h.get h1.get->h1.chans=[g,d]->h1.todo=h.todo->h1.pend=h.pend->SpawnW XT P (.func (.func f) #[] cap) #[] h1 Q:=by
  intro h1 m c1 t1 p1;refine spawnW (fun _=>true) (freezeC (fun _=>true) h1.get) s k (hargs:=cap) (by simp) ?_ (by rw[p1];exact a) ?_ (c _ (m.trans (rd_freeze2 _ _))) ?_
  ·intro r x b;refine⟨?_,b⟩;unfold freezeC at b;cases j:h1.get r with
   | none=>rw[j]at b;cases b
   | some y=>rw[j]at b;simp at b;rw[<- b]
  ·intro y j;rw[c1];rcases p y j with e|e<;>simp[e]
  ·exact n _ (m.trans (rd_freeze2 _ _)) c1 t1 (by show h1.pend++_=_;rw[p1])
 rcases l with⟨h1,o,⟨s1,h2⟩,s2,h3⟩|h1
 ·refine SpawnW.opened a d s1 h2 ?_;have i:dropC h.get d g=some (true,.chan 0 #[] false s2 s2 false):=by unfold dropC;rw[if_neg (Ne.symm o)];exact h3
  refine SpawnW.opened a g s2 i (key _ ((rd_drop2 h2).trans (rd_drop2 i)) ?_ rfl rfl);show g::d::h.chans=_;rw[h1]
 ·exact key h (Rd.refl _) h1 rfl rfl
def scr(q1 q2:Nat)(φ:Nat->Value->Cells->Prop)(ψ:Value->Cells->Prop)(x:Nat×Bool):Script:=if x.2 then [(q1,φ x.1),(q2,ψ)] else [(q2,ψ)]
theorem commW_sel{last:Bool}{g f:Nat}{A B:Value}{φ:Nat->Value->Cells->Prop}{ψ:Value->Cells->Prop}{rem:List (Nat×Bool)}{Q:Value->LH->Prop}(K:h.pend=rem.map (scr g f φ ψ))(hc:h.chans=[f,g])(D:g≠f)(J:rem≠[])
 (F:∀ j i m v d,rem=j++(i,true)::m->d.todo=h.todo->d.pend=(j++(i,false)::m).map (scr g f φ ψ)->d.chans=[f,g]->(∃ hv,φ i v hv/\hv.le d.get)->h.get.le d.get->Q (commResult #[rcase g A,rcase f B] .select (0:Nat) v true) d)
 (q:∀ j i m v d,rem=j++(i,false)::m->d.todo=h.todo->d.pend=(j++m).map (scr g f φ ψ)->((j++m≠[]/\d.chans=[f,g])\/(j++m=[]/\d.chans=[]))->(∃ hv,ψ v hv)->h.get.le d.get->Q (commResult #[rcase g A,rcase f B] .select (1:Nat) v true) d):CommW XT P last #[rcase g A,rcase f B] .select h Q:=by
 refine CommW.closed (CommW.closed (commW_recv ?_ (by rw[K];simpa using J) ?_ ?_))
 ·intro k cc l
  match k,l with
  | 0,l=>simp at l;subst l;exact⟨g,A,rfl,by rw[hc];simp⟩
  | 1,l=>simp at l;subst l;exact⟨f,B,rfl,by rw[hc];simp⟩
  | k+2,l=>simp at l
 ·intro s E;rw[K]at E;obtain⟨⟨i,b⟩,t,rfl⟩:=List.mem_map.1 E;cases b with
  | true=>exact⟨g,φ i,[(f,ψ)],0,A,rfl,rfl⟩
  | false=>exact⟨f,ψ,[],1,B,rfl,rfl⟩
 ·intro pre χ s post k c v hv V y a S O n;rw[K]at y;obtain⟨j,m,rfl,u,I⟩:=List.map_eq_append_iff.1 y;obtain⟨⟨i,b⟩,z,rfl,t,w⟩:=List.map_eq_cons_iff.1 I;have o:h.get.le (h.get.add hv):=Kp _ _;have M:hv.le (h.get.add hv):=fun r x hr=>Jg S hr;cases b with
  | true =>
   simp only[scr,if_true,List.cons.injEq,Prod.mk.injEq]at t;obtain⟨⟨rfl,rfl⟩,rfl⟩:=t;have G:k=0:=by
    match k,a with
    | 0,_=>rfl
    | 1,a=>simp[rcase]at a;exact absurd a.1.symm D
    | k+2,a=>simp at a
   subst G;refine .inl (.inl (F j i z v _ rfl rfl ?_ hc ⟨hv,n,M⟩ o));show pre++cons' [(f,ψ)] post=_;rw[<- u,<- w,List.map_append,List.map_cons];rfl
  | false =>
   simp only[scr,Bool.false_eq_true,if_false,List.cons.injEq,Prod.mk.injEq]at t;obtain⟨⟨rfl,rfl⟩,rfl⟩:=t;have H:k=1:=by
    match k,a with
    | 0,a=>simp[rcase]at a;exact absurd a.1 D
    | 1,_=>rfl
    | k+2,a=>simp at a
   subst H;have e:pre++cons' [] post=(j++z).map (scr g f φ ψ):=by
    show pre++post=_;rw[<- u,<- w,List.map_append]
   by_cases C:j++z=[]
   ·right;refine⟨f,by show f∈h.chans;rw[hc];simp,by show pre++cons' [] post=[];rw[e,C];rfl,fun s E=>?_⟩;right;refine⟨g,?_,by show pre++cons' [] post=[];rw[e,C];rfl,fun U L=>?_⟩
    ·show g∈h.chans.filter _;rw[hc];simp[D]
    ·refine q j i z v _ rfl rfl e (.inr ⟨C,?_⟩) ⟨hv,n⟩ ?_
     ·show (h.chans.filter _).filter _=[];rw[hc];simp[D]
     ·exact Cells.le_trans o (Cells.le_trans (Wv _ E) (Wv _ L))
   ·exact .inl (.inl (q j i z v _ rfl rfl e (.inl ⟨C,hc⟩) ⟨hv,n⟩ o))
/-! ### R p and N boxes, made in any order -/
structure Opening(t1 t2:TypeId)(h₀ h:LH)(c1 c2:Option Nat)(b1 b2:Option (Nat×Bool)):Prop where
 le:h₀.le h
 hc1:∀ q,c1=some q->h.get q=some (true,.chan 0 #[] false 0 0 false)
 hc2:∀ q,c2=some q->h.get q=some (true,.chan 0 #[] false 0 0 false)
 ne:∀ q q',c1=some q->c2=some q'->q≠q'
 hb1:∀ r s,b1=some (r,s)->h₀.get r=none/\h.get r=some (true,.cells #[.chan (if s then c1 else none)] t1 (0,0))
 hb2:∀ r s,b2=some (r,s)->h₀.get r=none/\h.get r=some (true,.cells #[.chan (if s then c2 else none)] t2 (0,0))
 bne:∀ r s r' s',b1=some (r,s)->b2=some (r',s')->r≠r'
section
variable {X:XP} {Q:Leaf->LH->Prop} {h₀ h:LH} {c1 c2:Option Nat} {b1 b2:Option (Nat×Bool)} {t1 t2:TypeId}
variable {b s q r:Nat}{k:Value->T}{el:TypeId}{z:Option Value}
theorem Opening.start:Opening t1 t2 h₀ h₀ none none none none:=⟨LH.le_refl _,fun _ h=>(by cases h),fun _ h=>(by cases h),fun _ _ h=>(by cases h),fun _ _ h=>(by cases h),fun _ _ h=>(by cases h),fun _ _ _ _ h=>(by cases h)⟩
theorem Z9{h:Cells}{a:Nat}{x:Bool×Obj}(c:h a=none)(hb:h b=some x):b≠a:=by rintro rfl;rw[c]at hb;cases hb
theorem op_chan1{d:ChanDir}(hu:P.underlying t1=some (.chan d el))(j:(P.info? el).map (fun i=>(i.size,i.bytes,i.zero))=some (s,b,z))(O:Opening t1 t2 h₀ h none c2 b1 b2)
 (l:∀ q h',Opening t1 t2 h₀ h' (some q) c2 (b1.map fun x=>(x.1,false)) b2->(k (.chan (some q))).wp X P Q h'):(T.sem false (Instr.makeChan t1 (.int .i64 0)) k).wp X P Q h:=by
 refine t_makeChan hu j fun q c=>l q _ ?_;have hle:=Qp (x:=(true,.chan 0 #[] false 0 0 false)) c;refine⟨LH.le_trans O.le hle,fun f e=>by cases e;exact Qd _ _ _,fun f e=>hle.1 _ _ (O.hc2 f e),fun a b g hb=>by cases g;exact(Z9 c (O.hc2 b hb)).symm,fun r s hr=>?_,fun r s hr=>⟨(O.hb2 r s hr).1,hle.1 _ _ (O.hb2 r s hr).2⟩,fun r s m n h1 h2=>?_⟩
 ·cases hb:b1 with
  | none=>rw[hb]at hr;cases hr
  | some x =>
   rw[hb]at hr;cases hr;have:=O.hb1 x.1 x.2 hb;refine⟨this.1,?_⟩;have h3:=hle.1 _ _ this.2;rw[h3];cases x.2<;>rfl
 ·cases hb:b1 with
  | none=>rw[hb]at h1;cases h1
  | some x=>rw[hb]at h1;cases h1;exact O.bne x.1 x.2 m n hb h2
theorem op_chan2{d:ChanDir}(hu:P.underlying t2=some (.chan d el))(j:(P.info? el).map (fun i=>(i.size,i.bytes,i.zero))=some (s,b,z))(O:Opening t1 t2 h₀ h c1 none b1 b2)
 (l:∀ q h',Opening t1 t2 h₀ h' c1 (some q) b1 (b2.map fun x=>(x.1,false))->(k (.chan (some q))).wp X P Q h'):(T.sem false (Instr.makeChan t2 (.int .i64 0)) k).wp X P Q h:=by
 refine t_makeChan hu j fun q c=>l q _ ?_;have hle:=Qp (x:=(true,.chan 0 #[] false 0 0 false)) c;refine⟨LH.le_trans O.le hle,fun f e=>hle.1 _ _ (O.hc1 f e),fun f e=>by cases e;exact Qd _ _ _,fun a b g hb=>by cases hb;exact Z9 c (O.hc1 a g),fun r s hr=>⟨(O.hb1 r s hr).1,hle.1 _ _ (O.hb1 r s hr).2⟩,fun r s hr=>?_,fun r s m n h1 h2=>?_⟩
 ·cases hb:b2 with
  | none=>rw[hb]at hr;cases hr
  | some x =>
   rw[hb]at hr;cases hr;have:=O.hb2 x.1 x.2 hb;refine⟨this.1,?_⟩;have h3:=hle.1 _ _ this.2;rw[h3];cases x.2<;>rfl
 ·cases hb:b2 with
  | none=>rw[hb]at h2;cases h2
  | some x=>rw[hb]at h2;cases h2;exact O.bne r s x.1 x.2 h1 hb
theorem op_new1{k:Nat->T}(O:Opening t1 t2 h₀ h c1 c2 none b2)(c:∀ r h',Opening t1 t2 h₀ h' c1 c2 (some (r,false)) b2->(k r).wp X P Q h'):(T.new t1 #[.chan none] k).wp X P Q h:=by
 refine J1 fun q a=>c q _ ?_;have hle:=Qp (x:=(true,.cells #[.chan none] t1 (0,0))) a;have h0:h₀.get q=none:=by
  cases d:h₀.get q with
  | none=>rfl
  | some x=>rw[O.le.1 _ _ d]at a;cases a
 exact⟨LH.le_trans O.le hle,fun b e=>hle.1 _ _ (O.hc1 b e),fun b e=>hle.1 _ _ (O.hc2 b e),O.ne,fun r s hr=>by cases hr;exact⟨h0,Qd _ _ _⟩,fun r s hr=>⟨(O.hb2 r s hr).1,hle.1 _ _ (O.hb2 r s hr).2⟩,fun r s f g h1 h2=>by cases h1;exact(Z9 a (O.hb2 f g h2).2).symm⟩
theorem op_new2{k:Nat->T}(O:Opening t1 t2 h₀ h c1 c2 b1 none)(c:∀ r h',Opening t1 t2 h₀ h' c1 c2 b1 (some (r,false))->(k r).wp X P Q h'):(T.new t2 #[.chan none] k).wp X P Q h:=by
 refine J1 fun q a=>c q _ ?_;have hle:=Qp (x:=(true,.cells #[.chan none] t2 (0,0))) a;have h0:h₀.get q=none:=by
  cases d:h₀.get q with
  | none=>rfl
  | some x=>rw[O.le.1 _ _ d]at a;cases a
 exact⟨LH.le_trans O.le hle,fun b e=>hle.1 _ _ (O.hc1 b e),fun b e=>hle.1 _ _ (O.hc2 b e),O.ne,fun r s hr=>⟨(O.hb1 r s hr).1,hle.1 _ _ (O.hb1 r s hr).2⟩,fun r s hr=>by cases hr;exact⟨h0,Qd _ _ _⟩,fun r s f g h1 h2=>by cases h2;exact Z9 a (O.hb1 r s h1).2⟩
theorem op_store1{k:T}(O:Opening t1 t2 h₀ h (some q) c2 (some (r,false)) b2)(l:∀ h',Opening t1 t2 h₀ h' (some q) c2 (some (r,true)) b2->k.wp X P Q h'):(T.store (Addr.add ⟨r,0,none⟩ 0) (.chan (some q)) k).wp X P Q h:=by
 have hr:=(O.hb1 r false rfl).2;have j:Addr.add (⟨r,0,none⟩ : Addr) 0=⟨r,0,none⟩:=by rw[Qh]
 rw[j];refine K6 rfl ⟨_,hr⟩ (v₀:=.chan none) (by simp[Cells.cell?,hr]) (by simp[Cells.frozen?,hr]) ?_;rw[setCell_at hr];refine l _ ?_;have keep:∀ b x,h.get b=some x->b≠r->(h.get.upd r (true,.cells ((#[.chan (if false=true then some q else none)]:Array Value).setIfInBounds 0 (.chan (some q))) t1 (0,0))) b=some x:=fun b x hb i=>by rw[Qk _ _ i];exact hb
 have f:∀ b,h.get b=some (true,.chan 0 #[] false 0 0 false)->b≠r:=fun b hb e=>by rw[e,hr]at hb;cases hb
 refine⟨⟨fun b x hb=>keep b x (O.le.1 b x hb) (Z9 (O.hb1 r false rfl).1 hb),O.le.2⟩,fun g e=>keep _ _ (O.hc1 g e) (f _ (O.hc1 g e)),fun g e=>keep _ _ (O.hc2 g e) (f _ (O.hc2 g e)),O.ne,fun d s c=>?_,fun d s c=>⟨(O.hb2 d s c).1,keep _ _ (O.hb2 d s c).2 (O.bne r false d s rfl c).symm⟩,fun a s d m h1 h2=>by cases h1;exact O.bne r false d m rfl h2⟩;cases c;exact⟨(O.hb1 r false rfl).1,Qd _ _ _⟩
theorem op_store2{k:T}(O:Opening t1 t2 h₀ h c1 (some q) b1 (some (r,false)))(l:∀ h',Opening t1 t2 h₀ h' c1 (some q) b1 (some (r,true))->k.wp X P Q h'):(T.store (Addr.add ⟨r,0,none⟩ 0) (.chan (some q)) k).wp X P Q h:=by
 have hr:=(O.hb2 r false rfl).2;have j:Addr.add (⟨r,0,none⟩ : Addr) 0=⟨r,0,none⟩:=by rw[Qh]
 rw[j];refine K6 rfl ⟨_,hr⟩ (v₀:=.chan none) (by simp[Cells.cell?,hr]) (by simp[Cells.frozen?,hr]) ?_;rw[setCell_at hr];refine l _ ?_;have keep:∀ b x,h.get b=some x->b≠r->(h.get.upd r (true,.cells ((#[.chan (if false=true then some q else none)]:Array Value).setIfInBounds 0 (.chan (some q))) t2 (0,0))) b=some x:=fun b x hb i=>by rw[Qk _ _ i];exact hb
 have d:∀ b,h.get b=some (true,.chan 0 #[] false 0 0 false)->b≠r:=fun b hb e=>by rw[e,hr]at hb;cases hb
 refine⟨⟨fun b x hb=>keep b x (O.le.1 b x hb) (Z9 (O.hb2 r false rfl).1 hb),O.le.2⟩,fun f e=>keep _ _ (O.hc1 f e) (d _ (O.hc1 f e)),fun f e=>keep _ _ (O.hc2 f e) (d _ (O.hc2 f e)),O.ne,fun g s c=>⟨(O.hb1 g s c).1,keep _ _ (O.hb1 g s c).2 (O.bne g s r false c rfl)⟩,fun g s c=>?_,fun a s g m h1 h2=>by cases h2;exact O.bne a s r false h1 rfl⟩;cases c;exact⟨(O.hb2 r false rfl).1,Qd _ _ _⟩
end
end Go.TM
end
namespace Go.Y.Tre
section
open Go.TM.Tr
attribute [local irreducible] T.wp CV FWK
variable {i j:Nat}{l:List Int}{f:TC}{x:TF}
theorem bit_test(c:i<2^32):(wrap .i64 (((BitVec.ofInt 64 (Int.fdiv (i:Int) (2^min (j:Int).toNat 64)) &&& BitVec.ofInt 64 1).toNat:Nat):Int)==1)=i.testBit j:=by
 have d:∃ q:Nat,Int.fdiv (i:Int) (2^min (j:Int).toNat 64)=(q:Int)/\q<=i/\q%2=(i / 2^j)%2:=by
  by_cases f:j<=64
  ·have hm:min (j:Int).toNat 64=j:=by simp;omega
   refine⟨i / 2^j,?_,Nat.div_le_self _ _,rfl⟩;rw[hm];have:(2^j:Int)=((2^j:Nat):Int):=by simp
   rw[this,<- Int.ofNat_fdiv]
  ·have hm:min (j:Int).toNat 64=64:=by simp;omega
   refine⟨0,?_,Nat.zero_le _,?_⟩
   ·rw[hm];have:(2^64:Int)=((2^64:Nat):Int):=by simp
    rw[this,<- Int.ofNat_fdiv];have:i / 2^64=0:=Nat.div_eq_of_lt (by omega);rw[this]
   ·have:i / 2^j=0:=Nat.div_eq_of_lt (Nat.lt_of_lt_of_le c (Nat.pow_le_pow_right (by omega) (by omega)));rw[this]
 obtain⟨q,h1,h2,h3⟩:=d;rw[h1];have a:(BitVec.ofInt 64 (q:Int)).toNat=q:=by rw[BitVec.toNat_ofInt];omega
 have b:(BitVec.ofInt 64 1).toNat=1:=rfl;rw[BitVec.toNat_and,a,b,Nat.and_one_is_mod,Qj (by omega) (by omega),Nat.testBit_eq_decide_div_mod_eq,<- h3];by_cases e:q%2=1
 ·rw[e];rfl
 ·have:q%2=0:=by omega
  rw[this];rfl
theorem sets_wrap{n:Nat}(b:n<=10):wrap .i64 (1*2^min (Int.toNat (n:Int)) 64)=((2^n:Nat):Int):=by
 have e:min (Int.toNat (n:Int)) 64=n:=by simp;omega
 have h2:(2:Nat)^n<=2^10:=Nat.pow_le_pow_right (by omega) b;have a:(1:Int)*2^n=((2^n:Nat):Int):=by simp
 rw[e,a];generalize 2^n=m at h2;rw[Qj (by omega) (by omega)]
def bitsTo(l:List Int)(i j:Nat):List Int:=(((List.range l.length).take j).filter fun b=>i.testBit b).map fun b=>l.getD b 0
def bitsL(l:List Int)(i:Nat):List Int:=((List.range l.length).filter fun b=>i.testBit b).map fun b=>l.getD b 0
theorem bits_all(a:l.length<=j):bitsTo l i j=bitsL l i:=by
 unfold bitsTo bitsL;rw[List.take_of_length_le (by simpa using a)]
theorem bits_take{y:Int}(a:l[j]?=some y):bitsTo l i (j+1)=bitsTo l i j++if i.testBit j then [y] else []:=by
 have b:j<l.length:=(List.getElem?_eq_some_iff.1 a).1;unfold bitsTo;rw[List.take_succ_eq_append_getElem (by simpa using b),List.filter_append,List.map_append];congr 1;simp only[List.getElem_range,List.filter_cons,List.filter_nil];split
 ·simp[List.getD,a]
 ·rfl
theorem range_getD(l:List Int):(List.range l.length).map (fun b=>l.getD b 0)=l:=by
 refine List.ext_getElem (by simp) fun i h1 h2=>?_;simp[List.getD,List.getElem?_eq_getElem h2]
theorem bits_len:(bitsTo l i j).length<=l.length:=by
 unfold bitsTo;rw[List.length_map];refine Nat.le_trans (List.length_filter_le _ _) ?_;rw[List.length_take,List.length_range];omega
theorem bits_sub:(bitsL l i).Sublist l:=by
 unfold bitsL;have h:((List.range l.length).filter fun b=>i.testBit b).Sublist (List.range l.length):=List.filter_sublist;have:=h.map fun b=>l.getD b 0;rwa[range_getD]at this
theorem sub_bits{m:List Int}(d:l.Nodup)(h:m.Sublist l):∃ i,i<2^l.length/\bitsL l i=m:=by
 obtain⟨i,c,hb⟩:=bits_of (fun b=>decide (l.getD b 0∈m)) l.length;refine⟨i,c,?_⟩;unfold bitsL;rw[List.filter_congr (q:=(fun x=>decide (x∈m))∘fun b=>l.getD b 0) fun b a=>hb b (List.mem_range.1 a),<- List.filter_map,range_getD];exact filter_sub h d
structure TAt(h:Cells)(a:Addr)(f:TC)(x:TF):Prop where
 f0:h.cell? (a.add 0)=some (.int .i64 x.items)
 f1:h.cell? (a.add 1)=some (.int .i64 x.lands)
 f2:h.cell? (a.add 2)=some (.int .i64 x.start)
 f3:h.cell? (a.add 3)=some (.int .i64 x.depend)
 f4:h.cell? (a.add 4)=some (.int .i64 x.refuse)
 f5:h.cell? (a.add 5)=some (.int .i64 x.turn)
 f6:h.cell? (a.add 6)=some (.slice f.p f.n f.c)
theorem TAt.rd{h h':Cells}{a:Addr}(b:Rd h h')(m:TAt h a f x):TAt h' a f x:=⟨b _ _ m.f0,b _ _ m.f1,b _ _ m.f2,b _ _ m.f3,b _ _ m.f4,b _ _ m.f5,b _ _ m.f6⟩
theorem TAt.le{h h':Cells}{a:Addr}{f:TC}{x:TF}(b:h.le h')(m:TAt h a f x):TAt h' a f x:=m.rd (Ja b)
def Found(x:TF)(i:Nat)(v:Value)(hv:Cells):Prop:=∃ a n c,v=.slice (some a) n c/\Sl IntE 1 hv (some a) n (bitsL (giving x) i)/\n<=c
def Done(v:Value)(_:Cells):Prop:=v=.bool true
def okB(x:TF)(k it d:Int)(i:Nat):Bool:=holdsB x k it d (bitsL (giving x) i)
theorem giving_ten(rt:Right x):(giving x).length<=10:=by
 have:=Dy x.events 0;have:=rt.many;unfold giving;omega
theorem c2073{hc:Cells}{K A:Nat}{z0 z1 z2 z3 z4 z5 z6 C:Addr}{k it d:Int}(hk:Kinds hc)(w:TreatyR hc f x)(rt:Right x)(Q:KindsOk x)(P:TAt hc z2 f x)(hi:i<2^32)
 {ap:Option Addr}{B ac:Nat}(h0:hc.cell? z0=some (.slice ap B ac))(D:Sl IntE 1 hc ap B (giving x))(h1:hc.cell? z1=some (.int .i64 (i:Int)))(h3:hc.cell? z3=some (.int .i64 k))(h4:hc.cell? z4=some (.int .i64 it))(h5:hc.cell? z5=some (.int .i64 d))
 (O:hc.cell? z6=some (.chan (some K)))(u:hc.cell? C=some (.chan (some A))) :
  FWK XW Tryz.prog .deferred 90 #[.pointer (some z0),.pointer (some z1),.pointer (some z2),.pointer (some z3),.pointer (some z4),.pointer (some z5),.pointer (some z6),.pointer (some C)] ⟨hc,[],[],scr K A (Found x) Done (i,okB x k it d i)⟩ fun _ _=>False:=by
 generalize G:scr K A (Found x) Done (i,okB x k it d i)=J;refine w2073 _ _ _ _ _ _ _ _ XW_ok ?_;unfold n2073;have hn:=D.1;have a0:=giving_ten rt;refine t_build0 und50 inf3 fun b0 E=>?_;have H:LH.le ⟨hc,[],[],J⟩ _:=Qp (x:=(true,.cells #[] 3 (0,0))) E;have k0:=Qc H.1 h0;refine gZ ?_;refine Qq (fun X vs h'=>LH.le ⟨hc,[],[],J⟩ h'/\∃ (j:Nat) (a:Addr) (n c:Nat),vs=[.slice (some a) n c,.int .i64 j]/\j<=B/\X=B-j/\Growing IntEnc 3 1 hc h'.get (some a) n c (bitsTo (giving x) i j))
  ⟨H,0,_,0,0,rfl,Nat.zero_le _,rfl,⟨[],⟨rfl,.inr ⟨b0,#[],rfl,Qd _ _ _,rfl,Nat.le_refl _,fun j v hv=>by simp at hv⟩⟩,by unfold bitsTo;exact .nil⟩,fun a ha=>by cases ha;exact E⟩ ?_
 rintro Y X vs h₁ W ⟨hle,j,a,n,c,rfl,hj,rfl,g⟩;have e0:=g.count IntEnc.len (by omega);have hlen:=bits_len (l:=giving x) (i:=i) (j:=j);refine yJ (fun e1=>?_) (fun e1=>?_)
 ·obtain⟨y,ya,hy,j0,e2⟩:=(D.le IntE.grow hle.1).at (i:=j) (by omega);unfold IntE at e2;have k1:=Qc hle.1 h1;refine gZ ?_;rw[bit_test hi];have q:=bits_take (i:=i) hy;refine Qt (fun b=>?_) (fun b=>?_)
  ·rw[if_pos b]at q;refine Gd (h₀:=⟨hc,[],[],J⟩) y [.int .i64 y] rfl rfl und50 inf3 rfl (by omega) (by decide) (by kernel_rfl) rfl (by simp;rfl) (by omega) g hle rfl ?_;intro p' c' m o _ N;refine gZ ?_;obtain⟨L,rfl⟩ : ∃ L,p'=some L:=by
    obtain⟨vs,⟨_,O⟩,_⟩:=N.row;rcases O with⟨_,u,_⟩|⟨r,cs,u,_⟩
    ·omega
    ·exact⟨_,u⟩
   refine Qa (W (B-(j+1)) _ _ (by omega) ⟨o,j+1,L,n+1,c',?_,by omega,rfl,by rw[q];exact N⟩);rw[Qj (by omega) (by omega)];rfl
  ·rw[if_neg (by rw[b];simp),List.append_nil]at q;refine Qa (W (B-(j+1)) _ _ (by omega) ⟨hle,j+1,a,n,c,?_,by omega,rfl,by rw[q];exact g⟩);rw[Qj (by omega) (by omega)];rfl
 ·refine gZ ?_;rw[bits_all (by omega)]at g;rw[bits_all (by omega)]at hlen;obtain⟨g0,g1,N,g3,g4,g5,g6⟩:=P.le hle.1;have k3:=Qc hle.1 h3;have k4:=Qc hle.1 h4;have k5:=Qc hle.1 h5;refine gZ ?_;refine t_gr (c2069 (hk.le hle.1) (w.le hle.1) rt Q k it d (g.sl IntEnc.len (by omega) IntEnc.e (by omega))) ?_;rintro _ m I rfl;have o:=LH.le_trans hle I;have k6:=Qc o.1 O;have R:=Qc o.1 u;refine yI (fun b=>?_) (fun b=>?_)
  ·refine Ud k6 ?_;refine Yx ?_;have M:okB x k it d i=true:=b;have p:J=[(K,Found x i),(A,Done)]:=by rw[<- G,M];rfl
   have g7:=g.le I.1;obtain⟨vs,⟨o1,o2⟩,rows⟩:=g7.row;rcases o2 with⟨U,_⟩|⟨r,cs,U,V,o5,Z,o7⟩
   ·cases U
   ·cases U;have F:hc r=none:=g.new _ rfl;refine D7 (z:=.tuple #[]) (φ:=Found x i) (s:=[(A,Done)]) (hv:=fun b=>if b=r then m.get b else none) (hr:=fun b=>if b=r then none else m.get b) (o.2.2.2.trans p) ?_ (fun b=>?_) (fun b x w=>?_) ?_ (fun h=>by cases h) (fun _=>?_)
    ·funext b;unfold Cells.add;by_cases e:b=r
     ·subst e;simp[V]
     ·simp[e]
    ·by_cases e:b=r
     ·right;simp[e]
     ·left;simp[e]
    ·have t:(if b=r then m.get b else none)=some x:=w;split at t
     ·rename_i e;subst e;rw[V]at t;cases t;rfl
     ·cases t
    ·refine⟨_,_,_,rfl,?_,Z⟩;refine rows.sl IntEnc.len (by omega) IntEnc.e (el:=3) ⟨o1,.inr ⟨r,cs,rfl,?_,o5,Z,o7⟩⟩ (by omega);show (if r=r then m.get r else none)=_;rw[if_pos rfl];exact V
    ·have hz:C.block≠r:=by
      intro e;unfold Cells.cell? at u;rw[e,F]at u;cases u
     have S:Cells.cell? (fun b=>if b=r then none else m.get b) C=some (.chan (some A)):=by
      have hb:(fun b=>if b=r then none else m.get b) C.block=m.get C.block:=if_neg hz;unfold Cells.cell? at R ⊢;rw[hb];exact R
     refine Ud S ?_;refine Yx ?_;refine D7 (z:=.tuple #[]) (φ:=Done) (s:=[]) (hv:=fun _=>none) (hr:=fun b=>if b=r then none else m.get b) rfl ?_ (fun r=>.inl rfl) (fun r x w=>by cases w) rfl (fun _=>rfl) (fun h=>absurd rfl h);funext r;rfl
  ·refine Ud R ?_;refine Yx ?_;have M:okB x k it d i=false:=b;have p:J=[(A,Done)]:=by rw[<- G,M];rfl
   refine D7 (z:=.tuple #[]) (φ:=Done) (s:=[]) (hv:=fun _=>none) (hr:=m.get) (o.2.2.2.trans p) ?_ (fun r=>.inl rfl) (fun r x w=>by cases w) rfl (fun _=>rfl) (fun h=>absurd rfl h);funext r;rfl
end
section
open Go.TM.Tr
attribute [local irreducible] T.wp CV FWK
def BestR(h:Cells)(x:TF)(k it d:Int)(rem:List (Nat×Bool))(p:Option Addr)(n:Nat)(held:Bool):Prop :=
 (held=false/\p=none/\n=0/\∀ j,j<2^(giving x).length->(j,true)∉rem->okB x k it d j=false) \/
 (held=true/\∃ i a,p=some a/\i<2^(giving x).length/\okB x k it d i=true/\Sl IntE 1 h (some a) n (bitsL (giving x) i)/\∀ j,j<2^(giving x).length->(j,true)∉rem->okB x k it d j=true->fewerF (bitsL (giving x) i) (bitsL (giving x) j)<=0)
def weight:Nat×Bool->Nat|(_,true)=>2|(_,false)=>1
def NeedsR(h':Cells)(x:TF)(k it d:Int)(r:Value):Prop :=
 (Jv x k it d≠0/\r=.tuple #[.slice none 0 0,.bool false,.int .i64 (Jv x k it d)]) \/
 (Jv x k it d=0/\¬ 0<=dateOn x k it d/\r=.tuple #[.slice none 0 0,.bool false,.int .i64 0]) \/
 (Jv x k it d=0/\0<=dateOn x k it d/\∃ p n c,r=.tuple #[.slice p n c,.bool true,.int .i64 0]/\Sl IntE 1 h' p n (needT x k it d)/\n<=c)
variable {h h':Cells}{x:TF}{k it d:Int}{p:Option Addr}{n i:Nat}{b:Bool}
theorem BestR.done(v:Ok x)(hb:BestR h x k it d [] p n b):(¬ 0<=dateOn x k it d/\b=false/\p=none/\n=0)\/(0<=dateOn x k it d/\b=true/\Sl IntE 1 h p n (needT x k it d)):=by
 have o:(giving x).Nodup:=(Gv x.events 0).imp fun h=>by omega
 rcases hb with⟨h1,h2,h3,f⟩|⟨h1,i,a,h2,h3,f,h5,s⟩
 ·left;refine⟨fun e=>?_,h1,h2,h3⟩;obtain⟨q,r,_⟩:=need_spec (k:=k) (i:=it) (d:=d) e;obtain⟨j,g,c⟩:=sub_bits o r;have:=f j g (by simp);unfold okB at this;rw[c,q]at this;cases this
 ·have e:0<=dateOn x k it d:=by
   by_cases e:0<=dateOn x k it d
   ·exact e
   ·have:=none_holds v e (k:=k) (i:=it) (d:=d) (bits_sub (l:=giving x) (i:=i));unfold okB at f;rw[this]at f;cases f
  refine .inr ⟨e,h1,?_⟩;have:=need_one e (l:=bitsL (giving x) i) bits_sub f fun m hm t=>by
   obtain⟨j,g,c⟩:=sub_bits o hm;have:=s j g (by simp) (by unfold okB;rw[c];exact t);rwa[c]at this
  rw[h2,<- this];exact h5
theorem Sl.same{a b:List Int}(f:Sl IntE 1 h p n a)(hb:Sl IntE 1 h p n b):a=b:=by
 refine List.ext_getElem (by rw[<- f.1,<- hb.1]) fun i h1 h2=>?_;obtain⟨x,c,g,m,j⟩:=f.at (i:=i) (by rw[f.1];exact h1);obtain⟨y,d,k,l,e⟩:=hb.at (i:=i) (by rw[hb.1];exact h2);rw[m]at l;cases l;unfold IntE at j e;rw[j]at e;cases e;rw[List.getElem?_eq_getElem h1]at g;rw[List.getElem?_eq_getElem h2]at k;exact(Option.some.inj g).trans (Option.some.inj k).symm
theorem BestR.rd{h h':Cells}(hr:Rd h h'){x:TF}{k it d:Int}{rem:List (Nat×Bool)}{p:Option Addr}{n:Nat}{b:Bool}(hb:BestR h x k it d rem p n b):BestR h' x k it d rem p n b:=by
 rcases hb with hb|⟨h1,i,a,h2,h3,c,h5,e⟩
 ·exact .inl hb
 ·exact .inr ⟨h1,i,a,h2,h3,c,h5.rd IntE.grow hr,e⟩
theorem mem_but{a b:List (Nat×Bool)}{j:Nat}(h:(j,true)∉a++(i,false)::b):j=i\/(j,true)∉a++(i,true)::b:=by
 by_cases e:j=i
 ·exact .inl e
 ·right;simp only[List.mem_append,List.mem_cons,Prod.mk.injEq,not_or]at h ⊢;refine⟨h.1,by simp[e],h.2.2⟩
theorem BestR.drop{e f:List (Nat×Bool)}(hb:BestR h x k it d (e++(i,false)::f) p n b):BestR h x k it d (e++f) p n b:=by
 have key:∀ j,(j,true)∉e++f->(j,true)∉e++(i,false)::f:=by
  intro j c;simp only[List.mem_append,List.mem_cons,Prod.mk.injEq,not_or]at c ⊢;exact⟨c.1,by simp,c.2⟩
 rcases hb with⟨h1,h2,h3,g⟩|⟨h1,o,a,h2,h3,g,h5,m⟩
 ·exact .inl ⟨h1,h2,h3,fun j c l=>g j c (key j l)⟩
 ·exact .inr ⟨h1,o,a,h2,h3,g,h5,fun j c l=>m j c (key j l)⟩
theorem BestR.take{m o:List (Nat×Bool)}{q:Nat}{a:Addr}(hb:BestR h x k it d (m++(i,true)::o) p n b)(s:okB x k it d i=true)(e:i<2^(giving x).length)(t:Sl IntE 1 h' (some a) q (bitsL (giving x) i))
 (hle:b=false\/∀ j,Sl IntE 1 h p n (bitsL (giving x) j)->fewerF (bitsL (giving x) i) (bitsL (giving x) j)<=0):BestR h' x k it d (m++(i,false)::o) (some a) q true:=by
 refine .inr ⟨rfl,i,a,rfl,e,s,t,fun j l c f=>?_⟩;rcases mem_but c with rfl|c
 ·exact fewer_self _
 ·rcases hb with⟨h1,h2,h3,g⟩|⟨h1,u,v,h2,h3,g,h5,r⟩
  ·have:=g j l c;rw[this]at f;cases f
  ·have:=hle.resolve_left (by rw[h1];simp) u (by rw[h2];exact h5);exact Da this (r j l c f)
theorem BestR.stay(hr:Rd h h'){e f:List (Nat×Bool)}(hb:BestR h x k it d (e++(i,true)::f) p n true)
 (hle:∀ j,Sl IntE 1 h p n (bitsL (giving x) j)->fewerF (bitsL (giving x) j) (bitsL (giving x) i)<=0):BestR h' x k it d (e++(i,false)::f) p n true:=by
 rcases hb with⟨h1,h2,h3,b⟩|⟨h1,c,g,h2,h3,b,h5,l⟩
 ·cases h1
 ·refine .inr ⟨rfl,c,g,h2,h3,b,h5.rd IntE.grow hr,fun j m a o=>?_⟩;rcases mem_but a with rfl|a
  ·exact hle c (by rw[h2];exact h5)
  ·exact l j m a o
def AllT(x:TF)(k it d:Int)(j:Nat):List (Nat×Bool):=(List.range j).map fun i=>(i,okB x k it d i)
theorem c2044{h:LH}(u1:h.chans=[])(u2:h.pend=[])(hk:Kinds h.get){f:TC}(hx:TreatyR h.get f x)(k it d:Int) :
  FW XT Tryz.prog 45 #[treatyV f x,k,it,d] h fun r h'=>Rd h.get h'.get/\h'.chans=[]/\h'.pend=[]/\h'.todo=h.todo/\NeedsR h'.get x k it d r:=by
 refine w2044 XT_ok ?_;refine J1 fun r hr=>?_;have j3:h.le _:=Qp (x:=(true,.cells #[.int .i64 x.items,.int .i64 x.lands,.int .i64 x.start,.int .i64 x.depend,.int .i64 x.refuse,.int .i64 x.turn,.slice f.p f.n f.c] 55 (0,0))) hr;have u:TAt (h.get.upd r (true,.cells #[.int .i64 x.items,.int .i64 x.lands,.int .i64 x.start,.int .i64 x.depend,.int .i64 x.refuse,.int .i64 x.turn,.slice f.p f.n f.c] 55 (0,0))) ⟨r,0,none⟩ f x :=
  ⟨Qs rfl,Qs rfl,Qs rfl,Qs rfl,Qs rfl,Qs rfl,Qs rfl⟩
 generalize j4:({ h with get:=h.get.upd r (true,.cells #[.int .i64 x.items,.int .i64 x.lands,.int .i64 x.start,.int .i64 x.depend,.int .i64 x.refuse,.int .i64 x.turn,.slice f.p f.n f.c] 55 (0,0)) }:LH)=h0 at j3 ⊢;have u:TAt h0.get ⟨r,0,none⟩ f x:=by rw[<- j4];exact u
 refine J1 fun r1 q4=>?_;have k3:h0.le _:=Qp (x:=(true,.cells #[.int .i64 k] 3 (0,0))) q4;have z1:Cells.cell? (h0.get.upd r1 (true,.cells #[.int .i64 k] 3 (0,0))) ⟨r1,0,none⟩=some (.int .i64 k):=Qs rfl;refine J1 fun r2 s4=>?_;have w0:=Qp (h:={ h0 with get:=h0.get.upd r1 (true,.cells #[.int .i64 k] 3 (0,0)) }) (x:=(true,.cells #[.int .i64 it] 3 (0,0))) s4;have z2:Cells.cell? ((h0.get.upd r1 (true,.cells #[.int .i64 k] 3 (0,0))).upd r2 (true,.cells #[.int .i64 it] 3 (0,0))) ⟨r2,0,none⟩=some (.int .i64 it):=Qs rfl;refine J1 fun r3 u4=>?_;have X:=Qp (h:={ h0 with get:=(h0.get.upd r1 (true,.cells #[.int .i64 k] 3 (0,0))).upd r2 (true,.cells #[.int .i64 it] 3 (0,0)) }) (x:=(true,.cells #[.int .i64 d] 3 (0,0))) u4;have z3:Cells.cell? (((h0.get.upd r1 (true,.cells #[.int .i64 k] 3 (0,0))).upd r2 (true,.cells #[.int .i64 it] 3 (0,0))).upd r3 (true,.cells #[.int .i64 d] 3 (0,0))) ⟨r3,0,none⟩=some (.int .i64 d):=Qs rfl;have z1:=Qc (LH.le_trans w0 X).1 z1;have z2:=Qc X.1 z2;have u:=u.le (LH.le_trans k3 (LH.le_trans w0 X)).1;obtain⟨g0,g1,g2,g3,g4,g5,g6⟩:=id u;have g:=LH.le_trans j3 (LH.le_trans k3 (LH.le_trans w0 X));generalize y1:({ h0 with get:=((h0.get.upd r1 (true,.cells #[.int .i64 k] 3 (0,0))).upd r2 (true,.cells #[.int .i64 it] 3 (0,0))).upd r3 (true,.cells #[.int .i64 d] 3 (0,0)) }:LH)=h3 at g ⊢;have e3:h3.get=((h0.get.upd r1 (true,.cells #[.int .i64 k] 3 (0,0))).upd r2 (true,.cells #[.int .i64 it] 3 (0,0))).upd r3 (true,.cells #[.int .i64 d] 3 (0,0)):=by rw[<- y1]
 rw[<- e3]at z1 z2 z3 u g0 g1 g2 g3 g4 g5 g6;clear y1 e3;refine gZ ?_;refine t_pu (c2066 (hk.le g.1) (hx.le g.1) k it d) ?_;refine yI (fun e=>?_) (fun e=>?_)
 ·exact Qe ⟨Ja g.1,by rw[g.2.1,u1],by rw[g.2.2.1,u2],g.2.2.2,.inl ⟨by simpa using e,rfl⟩⟩
 have ea:Jv x k it d=0:=by simpa using e
 have x1:=(G8 (askedItem_ok (askedAll_ok ea).1).1).1;have rt:=Right.of x1;have j2:=KindsOk.of x1;have a5:=giving_ten rt;refine gZ ?_;refine t_gr (c2067 (hk.le g.1) (hx.le g.1) j2 rt.many) ?_;rintro _ y4 x4 ⟨ap,an,ac,rfl,U,_⟩;have y3:=U.1;refine gZ ?_;refine t_newSt2 rfl fun r4 R m3 _ _ z0=>?_;have l3:=LH.le_trans x4 m3;refine Jw (fun vs h'=>∃ b1 b2 E F,vs=[.pointer (some ⟨b1,0,none⟩),.pointer (some ⟨b2,0,none⟩)]/\Opening 129 171 R h' (some E) (some F) (some (b1,true)) (some (b2,true))) ?_ ?_
 ·have O:Opening 129 171 R R none none none none:=Opening.start
  repeat' first
   | refine Hg ?_ ?_
   | (refine op_new1 (by assumption) ?_;intro _ _ _)
   | (refine op_new2 (by assumption) ?_;intro _ _ _)
   | (refine op_chan1 undCI inf50 (by assumption) ?_;intro _ _ _)
   | (refine op_chan2 undCB inf4 (by assumption) ?_;intro _ _ _)
   | refine t_unC ?_
   | (refine op_store1 (by assumption) ?_;intro _ _)
   | (refine op_store2 (by assumption) ?_;intro _ _)
   | exact Qa ⟨_,_,_,_,rfl,by assumption⟩
 rintro _ G ⟨b1,b2,E,F,rfl,O⟩;have x0:=O.le;have B:=LH.le_trans l3 x0;have t:=LH.le_trans g B;have z0:=Qc x0.1 z0;have z1:=Qc B.1 z1;have z2:=Qc B.1 z2;have z3:=Qc B.1 z3;have u:=u.le B.1;have U:=U.le IntE.grow (LH.le_trans m3 x0).1;have s3:G.get.cell? ⟨b1,0,none⟩=some (.chan (some E)):=by
  have:=(O.hb1 b1 true rfl).2;simp[Cells.cell?,this]
 have u3:G.get.cell? ⟨b2,0,none⟩=some (.chan (some F)):=by
  have:=(O.hb2 b2 true rfl).2;simp[Cells.cell?,this]
 have hq:=O.ne E F rfl rfl;have m4:=O.hc1 E rfl;have o4:=O.hc2 F rfl;refine gZ ?_;rw[sets_wrap (by omega)];have j0:2^an<=2^10:=Nat.pow_le_pow_right (by omega) (by omega);have x3:(2:Nat)^an=2^(giving x).length:=by rw[y3]
 have J:0<2^an:=Nat.pow_pos (by omega);generalize hN:(2:Nat)^an=N at j0 x3 J ⊢;refine gZ ?_;refine Qq (fun mm vs h'=>∃ j:Nat,vs=[.int .i64 j]/\j<=N/\mm=N-j/\Rd G.get h'.get/\h'.todo=h.todo/\h'.pend=(AllT x k it d j).map (scr E F (Found x) Done)/\Y9 E F h'/\(0<j->h'.chans=[F,E]))
  ⟨0,rfl,Nat.zero_le _,rfl,Rd.refl _,t.2.2.2,by rw[t.2.2.1,u2];rfl,.inl ⟨by rw[t.2.1,u1],hq,⟨0,m4⟩,0,o4⟩,fun hh=>absurd hh (by omega)⟩ ?_
 rintro Y mm vs z4 hY ⟨j,rfl,hj,rfl,o3,q3,y0,k0,v3⟩;refine yJ (fun e1=>?_) (fun e1=>?_)
 ·refine t_newSt2 rfl fun r5 A S _ _ z5=>?_;have C:=o3.trans (Ja S.1);refine t_spawn (spawnW_two E F (s:=scr E F (Found x) Done (j,okB x k it d j)) (by rw[S.2.2.1,y0];intro hm;obtain⟨z,_,hz⟩:=List.mem_map.1 hm;unfold scr at hz;split at hz<;>cases hz) (k0.le S) ?_ ?_ (fun hc x2=>?_) (fun H r9 c9 t9 p9=>?_))
  ·unfold scr;split<;>simp
  ·intro y hy;unfold scr at hy;split at hy
   ·simp at hy;rcases hy with rfl|rfl<;>simp
   ·simp at hy;simp[hy]
  ·have m:=C.trans x2;exact c2073 ((hk.le t.1).rd m) ((hx.le t.1).rd m) rt j2 (u.rd m) (by omega) (m _ _ z0) (U.rd IntE.grow m) (x2 _ _ z5) (m _ _ z1) (m _ _ z2) (m _ _ z3) (m _ _ s3) (m _ _ u3)
  ·refine Qa (hY (N-(j+1)) _ _ (by omega) ⟨j+1,?_,by omega,rfl,C.trans r9,(t9.trans S.2.2.2).trans q3,?_,.inr c9,fun _=>c9⟩)
   ·rw[Qj (by omega) (by omega)];rfl
   ·rw[p9,S.2.2.1,y0,AllT,AllT,List.range_succ,List.map_append,List.map_append];rfl
 ·refine gZ ?_;have k4:j=N:=by omega
  subst k4;refine Qq (fun mm vs h'=>∃ (rem:List (Nat×Bool)) (b:Bool) (p:Option Addr) (n c:Nat),vs=[.slice p n c,.bool b,.int .i64 rem.length]/\rem.length<=j/\mm=(rem.map weight).sum/\(∀ i o,(i,o)∈rem->i<j)/\(∀ i,(i,true)∈rem->okB x k it d i=true)/\Rd G.get h'.get/\h'.todo=h.todo/\h'.pend=rem.map (scr E F (Found x) Done) /\
    ((rem≠[]/\h'.chans=[F,E])\/(rem=[]/\h'.chans=[]))/\BestR h'.get x k it d rem p n b/\n<=c/\(b=false->c=0))
   ⟨AllT x k it d j,false,none,0,0,by simp[AllT],by simp[AllT],rfl,?_,?_,o3,q3,y0,.inl ⟨?_,v3 J⟩,.inl ⟨rfl,rfl,rfl,?_⟩,Nat.le_refl _,fun _=>rfl⟩ ?_
  ·intro i o Z;simp[AllT]at Z;omega
  ·intro i Z;simp[AllT]at Z;exact(by obtain⟨a0,a1,a2,a3⟩:=Z;rw[<- a2];exact a3)
  ·intro hh;have:=congrArg List.length hh;simp[AllT]at this;omega
  ·intro i Z hn;cases ho:okB x k it d i with
   | false=>rfl
   | true=>exact absurd (List.mem_map.2 ⟨i,List.mem_range.2 (by omega),by rw[ho]⟩) hn
  rintro Y2 mm vs A m1 ⟨rem,b,p,n,c,rfl,hlen,rfl,w,q0,C,j1,n3,e0,q,K,o1⟩;refine yJ (fun e2=>?_) (fun e2=>?_)
  ·have m2:rem≠[]:=by rintro rfl;simp at e2
   have l0:A.chans=[F,E]:=by
    rcases e0 with⟨_,a⟩|⟨a,_⟩
    ·exact a
    ·exact absurd a m2
   refine Ud (C _ _ s3) ?_;refine Ud (C _ _ u3) ?_;refine Yx (commW_sel (φ:=Found x) (ψ:=Done) n3 l0 hq m2 ?_ ?_)
   ·rintro V i W v H D ht s0 h4 ⟨hv,⟨a,n',c',rfl,P,L⟩,hle⟩ M;have o0:commResult #[Conc.rcase E (.slice none 0 0),Conc.rcase F (.bool false)] .select ((0:Nat):Int) (.slice (some a) n' c') true=.tuple #[.int .i64 0,.bool true,.slice (some a) n' c',.bool false]:=by simp[commResult,Conc.rcase,goInt]
    rw[o0];subst D;have I:=Ja M;have P:=P.rd IntE.grow (Ja hle);have Z:i<2^(giving x).length:=by have:=w i true (by simp);omega
    have o2:okB x k it d i=true:=q0 i (by simp);have next:∀ p' n' c',BestR H.get x k it d (V++(i,false)::W) p' n' true->n'<=c'->Y2 [.slice p' n' c',.bool true,.int .i64 ((V++(i,true)::W).length:Nat)] H:=by
     intro p' n' c' hb m0;refine m1 (((V++(i,false)::W).map weight).sum) _ _ (by simp[weight]) ⟨V++(i,false)::W,true,p',n',c',by simp,by simpa using hlen,rfl,?_,?_,C.trans I,ht.trans j1,s0,.inl ⟨by simp,h4⟩,hb,m0,fun h=>by cases h⟩
     ·intro i' o l;simp only[List.mem_append,List.mem_cons,Prod.mk.injEq]at l;rcases l with h1|h1|h1
      ·exact w i' o (by simp[h1])
      ·rw[h1.1];exact w i true (by simp)
      ·exact w i' o (by simp[h1])
     ·intro i' l;simp at l;exact q0 i' (by rcases l with h1|h1<;>simp[h1])
    refine yT ?_;refine Qt (fun e3=>?_) (fun e3=>?_)
    ·exact Qa (next _ _ _ (q.take o2 Z P (.inl (by simpa using e3))) L)
    ·have a4:b=true:=by simpa using e3
     subst a4;obtain⟨k',a',l4,y2⟩ : ∃ k' a',p=some a'/\Sl IntE 1 A.get (some a') n (bitsL (giving x) k'):=by
      rcases q with⟨b1,_⟩|⟨_,k',a',b1,_,_,b4,_⟩
      ·cases b1
      ·exact⟨k',a',b1,b4⟩
     subst l4;refine t_pu (c2074 P (y2.rd IntE.grow I)) ?_;have same:∀ k2,Sl IntE 1 A.get (some a') n (bitsL (giving x) k2)->bitsL (giving x) k2=bitsL (giving x) k':=fun k2 h3=>Sl.same h3 y2;refine yJ (fun e4=>?_) (fun e4=>?_)
     ·refine Qa (next _ _ _ (q.take o2 Z P (.inr fun k2 h3=>?_)) L);rw[same k2 h3];omega
     ·refine Qa (next _ _ _ (q.stay I fun k2 h3=>?_) K);rw[same k2 h3,U3];omega
   ·intro V i W v H D ht s0 b3 ⟨hv,Q⟩ M;have Q:v=.bool true:=Q;subst Q;have o0:commResult #[Conc.rcase E (.slice none 0 0),Conc.rcase F (.bool false)] .select ((1:Nat):Int) (.bool true) true=.tuple #[.int .i64 1,.bool true,.slice none 0 0,.bool true]:=by simp[commResult,Conc.rcase,goInt]
    rw[o0];subst D;have I:=Ja M;have hl:(V++(i,false)::W).length=(V++W).length+1:=by simp;omega
    refine gZ ?_;refine Qa (m1 (((V++W).map weight).sum) _ _ (by simp[weight]) ⟨V++W,b,p,n,c,?_,by omega,rfl,?_,?_,C.trans I,ht.trans j1,s0,b3,(q.drop).rd I,K,o1⟩)
    ·rw[hl,Qj (by omega) (by omega)];congr 3;congr 1;omega
    ·intro i' o l;simp only[List.mem_append]at l;exact w i' o (by rcases l with h1|h1<;>simp[h1])
    ·intro i' l;simp only[List.mem_append]at l;exact q0 i' (by rcases l with h1|h1<;>simp[h1])
  ·refine gZ ?_;have u0:rem=[]:=List.length_eq_zero_iff.1 (by omega);subst u0;have l0:A.chans=[]:=by
    rcases e0 with⟨a,_⟩|⟨_,a⟩
    ·exact absurd rfl a
    ·exact a
   refine Qe ⟨(Ja t.1).trans C,l0,n3,j1,.inr ?_⟩;rcases q.done rt.ok with⟨a1,rfl,rfl,rfl⟩|⟨a1,rfl,a2⟩
   ·have:=o1 rfl;subst this;exact .inl ⟨ea,a1,rfl⟩
   ·exact .inr ⟨ea,a1,_,_,_,rfl,a2,K⟩
end
section
open Go.TM.Tr
attribute [local irreducible] T.wp CV FWK
variable {h:LH}{p q:Option Addr}{n c m d:Nat}
theorem c2020{a b:List Bool}(f:Sl BoolE 1 h.get p n a)(hb:Sl BoolE 1 h.get q m b):Pu Tryz.prog 46 #[.slice p n c,.slice q m d] h (.bool (decide (a=b))):=by
 refine w2020 Qn ?_;have C:=f.1;have hm:=hb.1;have v:=f.2.1;have u:=hb.2.1;refine Qt (fun e=>?_) (fun e=>?_)
 ·have:a≠b:=by rintro rfl;simp at e;omega
  exact Qe ⟨by simp[this],rfl⟩
 have w:n=m:=by simp at e;omega
 refine Qq (fun o vs h'=>h=h'/\∃ i:Nat,vs=[.bool false,.int .i64 i]/\i<=n/\o=n-i/\a.take i=b.take i) ⟨rfl,0,rfl,Nat.zero_le _,rfl,rfl⟩ ?_;rintro Y o vs _ r ⟨rfl,i,rfl,B,rfl,hc⟩;refine yJ (fun e=>?_) (fun e=>?_)
 ·obtain⟨x,z,l,s,j⟩:=f.at (i:=i) (by omega);obtain⟨y,A,g,t,k⟩:=hb.at (i:=i) (by omega);unfold BoolE at j k;rw[Ga]at j k;refine yI (fun b1=>?_) (fun b1=>?_)
  ·refine gZ ?_;have:a≠b:=by rintro rfl;rw[l]at g;cases g;simp at b1
   exact Qe ⟨by simp[this],rfl⟩
  ·have b2:x=y:=by cases x<;>cases y<;>simp_all
   refine Qa (r (n-(i+1)) _ _ (by omega) ⟨rfl,i+1,?_,by omega,rfl,?_⟩)
   ·rw[Qj (by omega) (by omega)];rfl
   ·rw[List.take_add_one,List.take_add_one,hc,l,g,b2]
 ·refine gZ ?_;rw[List.take_of_length_le (by omega),List.take_of_length_le (by omega)]at hc;exact Qe ⟨by simp[hc],rfl⟩
theorem c2025{a b:List Sp}(f:Sl SpE 2 h.get p n a)(hb:Sl SpE 2 h.get q m b):Pu Tryz.prog 47 #[.slice p n c,.slice q m d] h (.bool (decide (a=b))):=by
 refine w2025 Qn ?_;have E:=f.1;have hm:=hb.1;have t:=f.2.1;have s:=hb.2.1;refine Qt (fun e=>?_) (fun e=>?_)
 ·have:a≠b:=by rintro rfl;simp at e;omega
  exact Qe ⟨by simp[this],rfl⟩
 have u:n=m:=by simp at e;omega
 refine Qq (fun k vs h'=>h=h'/\∃ i:Nat,vs=[.bool false,.int .i64 i]/\i<=n/\k=n-i/\a.take i=b.take i) ⟨rfl,0,rfl,Nat.zero_le _,rfl,rfl⟩ ?_;rintro Y k vs _ l ⟨rfl,i,rfl,D,rfl,hc⟩;refine yJ (fun e=>?_) (fun e=>?_)
 ·obtain⟨x,v,j,o,z,B⟩:=f.at (i:=i) (by omega);obtain⟨y,w,g,r,A,C⟩:=hb.at (i:=i) (by omega);refine gZ ?_;refine t_ne2 two30 g30 ?_;refine yI (fun b1=>?_) (fun b1=>?_)
  ·refine gZ ?_;have:a≠b:=by rintro rfl;rw[j]at g;cases g;simp at b1
   exact Qe ⟨by simp[this],rfl⟩
  ·have b2:x=y:=by obtain⟨F,G⟩:=x;obtain⟨H,I⟩:=y;simp at b1;simp[b1]
   refine Qa (l (n-(i+1)) _ _ (by omega) ⟨rfl,i+1,?_,by omega,rfl,?_⟩)
   ·rw[Qj (by omega) (by omega)];rfl
   ·rw[List.take_add_one,List.take_add_one,hc,j,g,b2]
 ·refine gZ ?_;rw[List.take_of_length_le (by omega),List.take_of_length_le (by omega)]at hc;exact Qe ⟨by simp[hc],rfl⟩
end
end Go.Y.Tre
section
namespace Go.Y
set_option linter.unusedVariables false
variable {X:XP} {h:LH} {A:Value->LH->Prop}
variable {a b c d e f g i j k l m:Int}{n o p q r s t u v w x y z:Nat}{B C D E F G H I J K L M:Option Addr}
theorem w2016:FX X 16 #[.agg #[a,b,c,d,e,f,.slice B n o]] h A (bif decide ((↑n:Int)>20) then .rt (.bool true) else .loop [false,.int .i64 0] (fun g=>.popB g fun j g=>.pi g fun i g=>.unNil g (bif decide (i<(↑n:Int)) then .need (0<=i/\i<(↑n:Int)) (.someA B fun k=>.loadS ((k.add (i.toNat*5)).add 3) fun p l m=>bif decide ((↑l:Int)>20) then .rn [true,i] else .ag [j,.int .i64 (wrap .i64 (i+1))]) else .bk [j,i])) (fun g=>.popB g fun j g=>.pi g fun i g=>.unNil g (.rt (.bool false))) (fun g=>.popB g fun j g=>.pi g fun i g=>.unNil g (.rt (.bool j))) fun q r=>.fail):=fk [1] [⟨0,[(2,.bool),(3,.int .i64)],[1],[],[],[]⟩] [] Tryz.f16
theorem w2017  : FX X 17 #[] h A (.cl 40 #[] fun b=>.unAgg b fun g=>.pi g fun c a=>.pi a fun i a=>.pi a fun j a=>.pi a fun k a=>.pi a fun l a=>.pi a fun m a=>.popS a fun d n e a=>.unNil a (.cT 41 #[.agg #[c,i,j,k,l,m,.slice d n e],.int .i64 0,.int .i64 15] fun b a=>.unS b fun t r0 L=>.unCons a fun b a=>.ui b fun s0=>.unNil a (.cT 41 #[.agg #[c,i,j,k,l,m,.slice d n e],.int .i64 1,.int .i64 40] fun b a=>.unS b fun y t0 R=>.unCons a fun b a=>.ui b fun a0=>.unNil a (.cT 42 #[.agg #[c,i,j,k,l,m,.slice d n e],.int .i64 0,.int .i64 18] fun b a=>.unS b fun z b0 S=>.unCons a fun b a=>.ui b fun c0=>.unNil a (.cT 42 #[.agg #[c,i,j,k,l,m,.slice d n e],.int .i64 0,.int .i64 44] fun b a=>.unS b fun B d0 U=>.unCons a fun b a=>.ui b fun e0=>.unNil a (.cT 43 #[.agg #[c,i,j,k,l,m,.slice d n e],.int .i64 0,.int .i64 0] fun b a=>.unS b fun C f0 V=>.unCons a fun b a=>.ui b fun g0=>.unNil a (.cT 43 #[.agg #[c,i,j,k,l,m,.slice d n e],.int .i64 0,.int .i64 1] fun b a=>.unS b fun D i0 W=>.unCons a fun b a=>.ui b fun j0=>.unNil a (.cT 44 #[.agg #[c,i,j,k,l,m,.slice d n e],.int .i64 1,.int .i64 45] fun b a=>.unS b fun E k0 Y=>.unCons a fun b a=>.ui b fun l0=>.unNil a (.cT 44 #[.agg #[c,i,j,k,l,m,.slice d n e],.int .i64 1,.int .i64 46] fun b a=>.unS b fun x0 m0 y0=>.unCons a fun b a=>.ui b fun o0=>.unNil a (.cT 45 #[.agg #[c,i,j,k,l,m,.slice d n e],.int .i64 0,.int .i64 0,.int .i64 44] fun b a=>.unS b fun d c e=>.unCons a fun b a=>.unB b fun f=>.unCons a fun b a=>.ui b fun p0=>.unNil a (.blk (bif s0 != 0 then .rn [false] else bif a0 != 0 then .rn [false] else bif c0 != 0 then .rn [false] else bif e0 != 0 then .rn [false] else bif g0 != 0 then .rn [false] else bif j0 != 0 then .rn [false] else bif l0 != 0 then .rn [false] else bif o0 != 0 then .rn [false] else bif p0 != 0 then .rn [false] else .ag [false]) (fun a=>.popB a fun G a=>.unNil a (.blk (.sem false (Instr.buildSlice 103 3 #[(0,.bool true),(1,.bool false),(2,.bool true)]) fun b=>.unS b fun F o Z=>.cB 46 #[.slice t r0 L,.slice F o Z] fun H=>bif !H then .rn [false] else .sem false (Instr.buildSlice 103 3 #[(0,.bool false),(1,.bool true),(2,.bool false)]) fun b=>.unS b fun u p M=>.cB 46 #[.slice y t0 R,.slice u p M] fun I=>bif !I then .rn [false] else .sem false (Instr.buildSlice 30 3 #[(0,.int .i64 3),(1,.int .i64 (-1)),(2,.int .i64 12)]) fun b=>.unS b fun v q N=>.cB 33 #[.slice z b0 S,.slice v q N] fun J=>bif !J then .rn [false] else .sem false (Instr.buildSlice 30 3 #[(0,.int .i64 3),(1,.int .i64 12),(2,.int .i64 (-1))]) fun b=>.unS b fun w r O=>.cB 33 #[.slice B d0 U,.slice w r O] fun K=>bif !K then .rn [false] else bif !f then .rn [false] else .sem false (Instr.buildSlice 30 2 #[(0,.int .i64 0),(1,.int .i64 5)]) fun b=>.unS b fun x s Q=>.cB 33 #[.slice d c e,.slice x s Q] fun f=>bif !f then .rn [false] else .ag [G]) (fun a=>.popB a fun f a=>.unNil a (.cl 48 #[.int .i64 12,.int .i64 39] fun b=>.unAgg b fun g=>.pi g fun c a=>.pi a fun o a=>.unNil a (.cl 48 #[.int .i64 44,.int .i64 9999] fun b=>.unAgg b fun g=>.pi g fun p a=>.pi a fun q a=>.unNil a (.sem false (Instr.buildSlice 22 2 #[(0,.agg #[c,o]),(1,.agg #[p,q])]) fun b=>.unS b fun d c e=>.cB 47 #[.slice C f0 V,.slice d c e] fun f=>bif f then .cl 48 #[.int .i64 12,.int .i64 14] fun b=>.unAgg b fun g=>.pi g fun c a=>.pi a fun r a=>.unNil a (.cl 48 #[.int .i64 25,.int .i64 9999] fun b=>.unAgg b fun g=>.pi g fun s a=>.pi a fun q0 a=>.unNil a (.sem false (Instr.buildSlice 22 2 #[(0,.agg #[c,r]),(1,.agg #[s,q0])]) fun b=>.unS b fun d c e=>.cB 47 #[.slice D i0 W,.slice d c e] fun f=>bif f then .sem false (Instr.buildSlice 30 1 #[(0,.int .i64 0)]) fun b=>.unS b fun d c e=>.cB 33 #[.slice E k0 Y,.slice d c e] fun f=>bif f then .rt (.bool ((↑m0:Int)==0)) else .rt (.bool false) else .rt (.bool false))) else .rt (.bool false))))) (fun a=>.popB a fun f a=>.unNil a (.rt (.bool f))) fun u0 v0=>.fail)) (fun a=>.popB a fun f a=>.unNil a (.rt (.bool f))) fun u0 v0=>.fail))))))))))):=fk [1] [] [⟨15,[(0,.bool)],[1],[],[],[]⟩,⟨13,[(0,.bool)],[1],[],[],[]⟩] Tryz.f17
theorem w2032:FX X 18 #[.int .u16 a] h A (.need ((10000:Int)≠0) (.rt (.int .i64 (Int.tmod (wrap .i64 a) 10000)))):=fk [] [] [] Tryz.f18
theorem w2035:FX X 15 #[.agg #[a,b,c,d,e,f,.slice B n o],.agg #[g,i,j,.slice C p q,k]] h A (.blk (.both (.sem false (Instr.buildSlice 53 0 #[]) fun t=>.unS t fun r m s=>.nds [.val (.agg #[g,i,j,.slice C p q,k]),.S B n o,.pp 2 6] (.both (.sem false (Builtin.append_ #[53,53] 53 #[.slice r m s,.slice B n o]) fun t=>.unS t fun r m s=>.nds [.val (.agg #[g,i,j,.slice C p q,k]),.pp 2 6] (.sem false (Instr.buildSlice 53 1 #[(0,.agg #[g,i,j,.slice C p q,k])]) fun t=>.unS t fun D u E=>.np 2 6 (.sem false (Builtin.append_ #[53,53] 53 #[.slice r m s,.slice D u E]) fun t=>.unS t fun r m s=>.np 2 6 (.ag [a,b,c,d,e,f,.slice r m s])))) (.sem false (Instr.buildSlice 53 1 #[(0,.agg #[g,i,j,.slice C p q,k])]) fun t=>.unS t fun D u E=>.nds [.S B n o,.pp 2 6] (.sem false (Builtin.append_ #[53,53] 53 #[.slice r m s,.slice B n o]) fun t=>.unS t fun r m s=>.np 2 6 (.sem false (Builtin.append_ #[53,53] 53 #[.slice r m s,.slice D u E]) fun t=>.unS t fun r m s=>.np 2 6 (.ag [a,b,c,d,e,f,.slice r m s])))))) (.sem false (Instr.buildSlice 53 1 #[(0,.agg #[g,i,j,.slice C p q,k])]) fun t=>.unS t fun r m s=>.nds [.S B n o,.pp 2 6] (.sem false (Instr.buildSlice 53 0 #[]) fun t=>.unS t fun D u E=>.nds [.S B n o,.pp 2 6] (.sem false (Builtin.append_ #[53,53] 53 #[.slice D u E,.slice B n o]) fun t=>.unS t fun G v H=>.np 2 6 (.sem false (Builtin.append_ #[53,53] 53 #[.slice G v H,.slice r m s]) fun t=>.unS t fun r m s=>.np 2 6 (.ag [a,b,c,d,e,f,.slice r m s])))))) (fun l=>.pi l fun m l=>.pi l fun u l=>.pi l fun v l=>.pi l fun w l=>.pi l fun x l=>.pi l fun y l=>.popS l fun r z s l=>.unNil l (bif decide ((↑p:Int)<=20) then .cI 39 #[.agg #[m,u,v,w,x,y,.slice r z s]] fun F=>.nds [.B (decide ((↑p:Int)<=20)),.val (.int .i64 (↑p:Int)),.S C p q,.pp 3 3,.val (.agg #[m,u,v,w,x,y,.slice r z s]),.B (F==0),.B (F==0),.B (decide ((↑p:Int)<=20)),.val (.int .i64 (↑p:Int)),.S C p q,.pp 3 3] (.rt (.tuple #[.agg #[m,u,v,w,x,y,.slice r z s],.bool (F==0)])) else .nds [.B (decide ((↑p:Int)<=20)),.val (.int .i64 (↑p:Int)),.S C p q,.pp 3 3,.val (.agg #[m,u,v,w,x,y,.slice r z s])] (.both (.nds [.B (decide ((↑p:Int)<=20)),.val (.int .i64 (↑p:Int)),.S C p q,.pp 3 3,.val (.agg #[m,u,v,w,x,y,.slice r z s]),false,.B (decide ((↑p:Int)<=20)),.val (.int .i64 (↑p:Int)),.S C p q,.pp 3 3] (.rt (.tuple #[.agg #[m,u,v,w,x,y,.slice r z s],false]))) (.nds [.B (decide ((↑p:Int)<=20)),.val (.int .i64 (↑p:Int)),.S C p q,.pp 3 3,.B (decide ((↑p:Int)<=20)),.val (.int .i64 (↑p:Int)),.S C p q,.pp 3 3] (.rt (.tuple #[.agg #[m,u,v,w,x,y,.slice r z s],false])))))) (fun l=>.pi l fun m l=>.pi l fun m l=>.pi l fun m l=>.pi l fun m l=>.pi l fun m l=>.pi l fun m l=>.popS l fun r m s l=>.unNil l (.rt (.tuple #[.agg #[.int .i64 0,.int .i64 0,.int .i64 0,.int .i64 0,.int .i64 0,.int .i64 0,.slice none 0 0],false]))) fun I J=>.fail):=fk [2,3,4,6] [] [⟨3,[(28672,.int .i64),(28673,.int .i64),(28674,.int .i64),(28675,.int .i64),(28676,.int .i64),(28677,.int .i64),(28678,.slice)],[2,3,4],[],[],[]⟩] Tryz.f15
theorem w2048  : FX X 40 #[] h A (.sem false (Instr.buildSlice 30 3 #[(0,.int .i64 0),(1,.int .i64 1),(2,.int .i64 2)]) fun a=>.unS a fun b d c=>.sem false (Instr.buildSlice 30 1 #[(0,.int .i64 1)]) fun a=>.unS a fun e x o=>.sem false (Instr.buildSlice 30 1 #[(0,.int .i64 1)]) fun a=>.unS a fun f y p=>.sem false (Instr.buildSlice 30 1 #[(0,.int .i64 2)]) fun a=>.unS a fun g z q=>.sem false (Instr.buildSlice 30 1 #[(0,.int .i64 0)]) fun a=>.unS a fun i B r=>.sem false (Instr.buildSlice 30 1 #[(0,.int .i64 0)]) fun a=>.unS a fun j C s=>.sem false (Instr.buildSlice 30 2 #[(0,.int .i64 0),(1,.int .i64 1)]) fun a=>.unS a fun k D t=>.sem false (Instr.buildSlice 30 1 #[(0,.int .i64 1)]) fun a=>.unS a fun l E u=>.sem false (Instr.buildSlice 30 1 #[(0,.int .i64 1)]) fun a=>.unS a fun m F v=>.sem false (Instr.buildSlice 30 1 #[(0,.int .i64 0)]) fun a=>.unS a fun n G w=>.sem false (Instr.buildSlice 53 10 #[(0,.agg #[.int .i64 0,.int .i64 12,.int .i64 0,.slice b d c,.int .i64 0]),(1,.agg #[.int .i64 1,.int .i64 15,.int .i64 0,.slice e x o,.int .i64 0]),(2,.agg #[.int .i64 2,.int .i64 25,.int .i64 0,.slice f y p,.int .i64 0]),(3,.agg #[.int .i64 3,.int .i64 22,.int .i64 0,.slice g z q,.int .i64 0]),(4,.agg #[.int .i64 4,.int .i64 40,.int .i64 0,.slice i B r,.int .i64 30]),(5,.agg #[.int .i64 5,.int .i64 44,.int .i64 0,.slice j C s,.int .i64 0]),(6,.agg #[.int .i64 0,.int .i64 20,.int .i64 1,.slice k D t,.int .i64 0]),(7,.agg #[.int .i64 1,.int .i64 27,.int .i64 1,.slice l E u,.int .i64 0]),(8,.agg #[.int .i64 4,.int .i64 50,.int .i64 0,.slice m F v,.int .i64 31]),(9,.agg #[.int .i64 6,.int .i64 18,.int .i64 0,.slice n G w,.int .i64 3])]) fun a=>.unS a fun b d c=>.rt (.agg #[.int .i64 3,.int .i64 2,.int .i64 10,.int .i64 20,.int .i64 6,.int .i64 5,.slice b d c])):=fk [0] [] [] Tryz.f40
theorem w2049:FX X 48 #[a,b] h A (.rt (.agg #[a,b])):=fk [4] [] [] Tryz.f48
end Go.Y
end
namespace Go.Y.Tre
section
open Go.TM.Tr
attribute [local irreducible] T.wp CV FWK
def bigB(x:TF):Bool:=decide (20<x.events.length)||x.events.any fun e=>decide (20<e.items.length)
variable {h:LH}
theorem c2016{f:TC}{x:TF}(b:TreatyR h.get f x):Pu Tryz.prog 16 #[treatyV f x] h (.bool (bigB x)):=by
 refine w2016 Qn ?_;have z:=b.2.1;have hb:=b.2.2.1;refine t_if (fun e=>?_) (fun e=>?_)
 ·exact Qe ⟨by rw[bigB,decide_eq_true (by omega)];rfl,rfl⟩
 have h0:bigB x=x.events.any fun e=>decide (20<e.items.length):=by rw[bigB,decide_eq_false (by omega)];rfl
 refine Qq (fun d vs h'=>h=h'/\∃ j:Nat,vs=[.bool false,.int .i64 j]/\j<=f.n/\d=f.n-j/\bigB x=(x.events.drop j).any fun e=>decide (20<e.items.length)) ⟨rfl,0,rfl,Nat.zero_le _,rfl,h0⟩ ?_;rintro Y d vs _ o ⟨rfl,j,rfl,w,rfl,hc⟩;refine yJ (fun g=>?_) (fun g=>?_)
 ·obtain⟨y,a,p,v,g0,r,s,⟨q,m,c,t,_,l⟩,u⟩:=b.2.at (i:=j) (by omega);rw[Jd p,List.any_cons]at hc;have hm:=l.1;refine yJ (fun k=>?_) (fun k=>?_)
  ·refine gZ ?_;rw[decide_eq_true (by omega),Bool.true_or]at hc;exact Qe ⟨by rw[hc],rfl⟩
  ·rw[decide_eq_false (by omega),Bool.false_or]at hc;refine Qa (o (f.n-(j+1)) _ _ (by omega) ⟨rfl,j+1,?_,by omega,rfl,hc⟩);rw[Qj (by omega) (by omega)];rfl
 ·refine gZ ?_;rw[List.drop_eq_nil_of_le (by omega)]at hc;exact Qe ⟨by rw[hc];rfl,rfl⟩
theorem c2032{n:Int}(a:0<=n/\n<=65535):Pu Tryz.prog 18 #[.int .u16 n] h (.int .i64 (n%10000)):=by
 refine w2032 Qn ?_;refine gT (by omega) ?_;rw[Qj (by omega) (by omega),Int.tmod_eq_emod_of_nonneg a.1];exact Qe ⟨rfl,rfl⟩
theorem c2049(a b:Int):Pu Tryz.prog 48 #[a,b] h (.agg #[a,b]):=by
 refine w2049 Qn ?_;exact Qe ⟨rfl,rfl⟩
section
variable {X:XP} {Q:Leaf->LH->Prop} {h:LH} {n:Nat} {parts:Array (Nat×Value)} {k:Value->T}
theorem t_ints(l:List Int)(e:n*1<=2^24)(d:l.length=n)(a:n*1≠0)
 (b:Instr.fill (fun i=>some (i*1,1)) ((Array.range (n*1)).map ((Value.int .i64 0).cells[·%(Value.int .i64 0).cells.size]!)) parts.toList=some (l.map (Value.int .i64)).toArray)
 (c:∀ r h',h.le h'->Sl IntE 1 h'.get (some ⟨r,0,none⟩) n l->(k (.slice (some ⟨r,0,none⟩) n n)).wp X Tryz.prog Q h'):(T.sem false (Instr.buildSlice 30 n parts) k).wp X Tryz.prog Q h:=by
 refine Gz (l.map (Value.int .i64)) und50 inf3 e a b fun r h' le _ hc=>c r h' le ?_;refine⟨d.symm,by omega,fun i x f=>⟨_,rfl,?_⟩⟩;unfold IntE;rw[Nat.mul_one];exact hc i _ (by rw[List.getElem?_map,f];rfl)
theorem t_bools(l:List Bool)(e:n*1<=2^24)(d:l.length=n)(a:n*1≠0)
 (b:Instr.fill (fun i=>some (i*1,1)) ((Array.range (n*1)).map ((Value.bool false).cells[·%(Value.bool false).cells.size]!)) parts.toList=some (l.map Value.bool).toArray)
 (c:∀ r h',h.le h'->Sl BoolE 1 h'.get (some ⟨r,0,none⟩) n l->(k (.slice (some ⟨r,0,none⟩) n n)).wp X Tryz.prog Q h'):(T.sem false (Instr.buildSlice 103 n parts) k).wp X Tryz.prog Q h:=by
 refine Gz (l.map Value.bool) undBs inf4 e a b fun r h' le _ hc=>c r h' le ?_;refine⟨d.symm,by omega,fun i x f=>⟨_,rfl,?_⟩⟩;unfold BoolE;rw[Nat.mul_one,Ga];exact hc i _ (by rw[List.getElem?_map,f];rfl)
end
theorem sp_two{h:Cells}{r:Nat}{a b:Sp}(hc:∀ (j:Nat) w,[Value.int .i64 a.first,.int .i64 a.last,.int .i64 b.first,.int .i64 b.last][j]?=some w->h.cell? (Addr.add ⟨r,0,none⟩ j)=some w):Sl SpE 2 h (some ⟨r,0,none⟩) 2 [a,b]:=by
 refine⟨rfl,by simp,fun i x c=>⟨_,rfl,?_⟩⟩
 match i,c with
 | 0,c=>cases c;exact⟨hc 0 _ rfl,hc 1 _ rfl⟩
 | 1,c=>cases c;exact⟨by rw[Qh,Qh];exact hc 2 _ rfl,by rw[Qh,Qh];exact hc 3 _ rfl⟩
 | i+2,c=>simp at c
def exT:TF:=⟨3,2,10,20,6,5,[⟨0,12,0,[0,1,2],0⟩,⟨1,15,0,[1],0⟩,⟨2,25,0,[1],0⟩,⟨3,22,0,[2],0⟩,⟨4,40,0,[0],30⟩,⟨5,44,0,[0],0⟩,⟨0,20,1,[0,1],0⟩,⟨1,27,1,[1],0⟩,⟨4,50,0,[1],31⟩,⟨6,18,0,[0],3⟩]⟩
theorem c2048:Gr Tryz.prog 40 #[] h fun r h'=>∃ f,r=treatyV f exT/\TreatyR h'.get f exT:=by
 refine w2048 Qn ?_;refine t_ints [0,1,2] (by decide) rfl (by decide) (by kernel_rfl) fun r0 h0 G z=>?_;refine gZ ?_;refine t_ints [1] (by decide) rfl (by decide) (by kernel_rfl) fun l h1 E s1=>?_;refine gZ ?_;refine t_ints [1] (by decide) rfl (by decide) (by kernel_rfl) fun m h2 y s2=>?_;refine gZ ?_;refine t_ints [2] (by decide) rfl (by decide) (by kernel_rfl) fun n h3 k A=>?_;refine gZ ?_;refine t_ints [0] (by decide) rfl (by decide) (by kernel_rfl) fun o I i B=>?_;refine gZ ?_;refine t_ints [0] (by decide) rfl (by decide) (by kernel_rfl) fun p h5 g C=>?_;refine gZ ?_;refine t_ints [0,1] (by decide) rfl (by decide) (by kernel_rfl) fun q J d s6=>?_;refine gZ ?_;refine t_ints [1] (by decide) rfl (by decide) (by kernel_rfl) fun s K c s7=>?_;refine gZ ?_;refine t_ints [1] (by decide) rfl (by decide) (by kernel_rfl) fun t L b s8=>?_;refine gZ ?_;refine t_ints [0] (by decide) rfl (by decide) (by kernel_rfl) fun u D a H=>?_;refine gZ ?_;have z:=z.le IntE.grow (LH.le_trans E (LH.le_trans y (LH.le_trans k (LH.le_trans i (LH.le_trans g (LH.le_trans d (LH.le_trans c (LH.le_trans b (a))))))))).1;have s1:=s1.le IntE.grow (LH.le_trans y (LH.le_trans k (LH.le_trans i (LH.le_trans g (LH.le_trans d (LH.le_trans c (LH.le_trans b (a)))))))).1;have s2:=s2.le IntE.grow (LH.le_trans k (LH.le_trans i (LH.le_trans g (LH.le_trans d (LH.le_trans c (LH.le_trans b (a))))))).1;have A:=A.le IntE.grow (LH.le_trans i (LH.le_trans g (LH.le_trans d (LH.le_trans c (LH.le_trans b (a)))))).1;have B:=B.le IntE.grow (LH.le_trans g (LH.le_trans d (LH.le_trans c (LH.le_trans b (a))))).1;have C:=C.le IntE.grow (LH.le_trans d (LH.le_trans c (LH.le_trans b (a)))).1;have s6:=s6.le IntE.grow (LH.le_trans c (LH.le_trans b (a))).1;have s7:=s7.le IntE.grow (LH.le_trans b (a)).1;have s8:=s8.le IntE.grow (a).1;have w:h.le D:=LH.le_trans G (LH.le_trans E (LH.le_trans y (LH.le_trans k (LH.le_trans i (LH.le_trans g (LH.le_trans d (LH.le_trans c (LH.le_trans b (a)))))))));refine Hf undEvs infEv (by decide) (by decide) (cells:=#[.int .i64 0,.int .i64 12,.int .i64 0,.slice (some ⟨r0,0,none⟩) 3 3,.int .i64 0,.int .i64 1,.int .i64 15,.int .i64 0,.slice (some ⟨l,0,none⟩) 1 1,.int .i64 0,.int .i64 2,.int .i64 25,.int .i64 0,.slice (some ⟨m,0,none⟩) 1 1,.int .i64 0,.int .i64 3,.int .i64 22,.int .i64 0,.slice (some ⟨n,0,none⟩) 1 1,.int .i64 0,.int .i64 4,.int .i64 40,.int .i64 0,.slice (some ⟨o,0,none⟩) 1 1,.int .i64 30,.int .i64 5,.int .i64 44,.int .i64 0,.slice (some ⟨p,0,none⟩) 1 1,.int .i64 0,.int .i64 0,.int .i64 20,.int .i64 1,.slice (some ⟨q,0,none⟩) 2 2,.int .i64 0,.int .i64 1,.int .i64 27,.int .i64 1,.slice (some ⟨s,0,none⟩) 1 1,.int .i64 0,.int .i64 4,.int .i64 50,.int .i64 0,.slice (some ⟨t,0,none⟩) 1 1,.int .i64 31,.int .i64 6,.int .i64 18,.int .i64 0,.slice (some ⟨u,0,none⟩) 1 1,.int .i64 3]) (by kernel_rfl) fun r hr=>?_;have F:=Qp (x:=(true,.cells #[.int .i64 0,.int .i64 12,.int .i64 0,.slice (some ⟨r0,0,none⟩) 3 3,.int .i64 0,.int .i64 1,.int .i64 15,.int .i64 0,.slice (some ⟨l,0,none⟩) 1 1,.int .i64 0,.int .i64 2,.int .i64 25,.int .i64 0,.slice (some ⟨m,0,none⟩) 1 1,.int .i64 0,.int .i64 3,.int .i64 22,.int .i64 0,.slice (some ⟨n,0,none⟩) 1 1,.int .i64 0,.int .i64 4,.int .i64 40,.int .i64 0,.slice (some ⟨o,0,none⟩) 1 1,.int .i64 30,.int .i64 5,.int .i64 44,.int .i64 0,.slice (some ⟨p,0,none⟩) 1 1,.int .i64 0,.int .i64 0,.int .i64 20,.int .i64 1,.slice (some ⟨q,0,none⟩) 2 2,.int .i64 0,.int .i64 1,.int .i64 27,.int .i64 1,.slice (some ⟨s,0,none⟩) 1 1,.int .i64 0,.int .i64 4,.int .i64 50,.int .i64 0,.slice (some ⟨t,0,none⟩) 1 1,.int .i64 31,.int .i64 6,.int .i64 18,.int .i64 0,.slice (some ⟨u,0,none⟩) 1 1,.int .i64 3] 58 (0,0))) hr;have rows:Go.TM.Rows (EventEnc D.get) [.int .i64 0,.int .i64 12,.int .i64 0,.slice (some ⟨r0,0,none⟩) 3 3,.int .i64 0,.int .i64 1,.int .i64 15,.int .i64 0,.slice (some ⟨l,0,none⟩) 1 1,.int .i64 0,.int .i64 2,.int .i64 25,.int .i64 0,.slice (some ⟨m,0,none⟩) 1 1,.int .i64 0,.int .i64 3,.int .i64 22,.int .i64 0,.slice (some ⟨n,0,none⟩) 1 1,.int .i64 0,.int .i64 4,.int .i64 40,.int .i64 0,.slice (some ⟨o,0,none⟩) 1 1,.int .i64 30,.int .i64 5,.int .i64 44,.int .i64 0,.slice (some ⟨p,0,none⟩) 1 1,.int .i64 0,.int .i64 0,.int .i64 20,.int .i64 1,.slice (some ⟨q,0,none⟩) 2 2,.int .i64 0,.int .i64 1,.int .i64 27,.int .i64 1,.slice (some ⟨s,0,none⟩) 1 1,.int .i64 0,.int .i64 4,.int .i64 50,.int .i64 0,.slice (some ⟨t,0,none⟩) 1 1,.int .i64 31,.int .i64 6,.int .i64 18,.int .i64 0,.slice (some ⟨u,0,none⟩) 1 1,.int .i64 3] exT.events:=Go.TM.Rows.snoc (x:=(⟨6,18,0,[0],3⟩ : Ev)) (ws:=[.int .i64 6,.int .i64 18,.int .i64 0,.slice (some ⟨u,0,none⟩) 1 1,.int .i64 3]) (Go.TM.Rows.snoc (x:=(⟨4,50,0,[1],31⟩ : Ev)) (ws:=[.int .i64 4,.int .i64 50,.int .i64 0,.slice (some ⟨t,0,none⟩) 1 1,.int .i64 31]) (Go.TM.Rows.snoc (x:=(⟨1,27,1,[1],0⟩ : Ev)) (ws:=[.int .i64 1,.int .i64 27,.int .i64 1,.slice (some ⟨s,0,none⟩) 1 1,.int .i64 0]) (Go.TM.Rows.snoc (x:=(⟨0,20,1,[0,1],0⟩ : Ev)) (ws:=[.int .i64 0,.int .i64 20,.int .i64 1,.slice (some ⟨q,0,none⟩) 2 2,.int .i64 0]) (Go.TM.Rows.snoc (x:=(⟨5,44,0,[0],0⟩ : Ev)) (ws:=[.int .i64 5,.int .i64 44,.int .i64 0,.slice (some ⟨p,0,none⟩) 1 1,.int .i64 0]) (Go.TM.Rows.snoc (x:=(⟨4,40,0,[0],30⟩ : Ev)) (ws:=[.int .i64 4,.int .i64 40,.int .i64 0,.slice (some ⟨o,0,none⟩) 1 1,.int .i64 30]) (Go.TM.Rows.snoc (x:=(⟨3,22,0,[2],0⟩ : Ev)) (ws:=[.int .i64 3,.int .i64 22,.int .i64 0,.slice (some ⟨n,0,none⟩) 1 1,.int .i64 0]) (Go.TM.Rows.snoc (x:=(⟨2,25,0,[1],0⟩ : Ev)) (ws:=[.int .i64 2,.int .i64 25,.int .i64 0,.slice (some ⟨m,0,none⟩) 1 1,.int .i64 0]) (Go.TM.Rows.snoc (x:=(⟨1,15,0,[1],0⟩ : Ev)) (ws:=[.int .i64 1,.int .i64 15,.int .i64 0,.slice (some ⟨l,0,none⟩) 1 1,.int .i64 0]) (Go.TM.Rows.snoc (x:=(⟨0,12,0,[0,1,2],0⟩ : Ev)) (ws:=[.int .i64 0,.int .i64 12,.int .i64 0,.slice (some ⟨r0,0,none⟩) 3 3,.int .i64 0]) (.nil) ⟨_,_,_,rfl,Nat.le_refl _,z⟩) ⟨_,_,_,rfl,Nat.le_refl _,s1⟩) ⟨_,_,_,rfl,Nat.le_refl _,s2⟩) ⟨_,_,_,rfl,Nat.le_refl _,A⟩) ⟨_,_,_,rfl,Nat.le_refl _,B⟩) ⟨_,_,_,rfl,Nat.le_refl _,C⟩) ⟨_,_,_,rfl,Nat.le_refl _,s6⟩) ⟨_,_,_,rfl,Nat.le_refl _,s7⟩) ⟨_,_,_,rfl,Nat.le_refl _,s8⟩) ⟨_,_,_,rfl,Nat.le_refl _,H⟩;refine gZ ?_;refine Qe ⟨LH.le_trans w F,⟨some ⟨r,0,none⟩,10,10⟩,rfl,Nat.le_refl _,?_⟩;refine rows.sl EventEnc.len (by omega) (EventEnc.e (Ja F.1)) (el:=58) ⟨rfl,.inr ⟨r,_,rfl,Qd _ _ _,rfl,Nat.le_refl _,fun j v hv=>by simpa using hv⟩⟩ (by decide)
end
section
open Go.TM.Tr
attribute [local irreducible] T.wp CV FWK
def datesA(x:TF)(k d:Int):List Int:=if Qu x k d=0 then datesT x k d else []
def protA(x:TF)(k d:Int):List Bool:=if Qu x k d=0 then protT x k d else []
def turnsA(x:TF)(k d:Int):List Int:=if Qu x k d=0 then turnsT x k d else []
def SpansA(x:TF)(k i:Int)(m:List Sp):Prop:=(Q9 x k i≠0/\m=[])\/(Q9 x k i=0/\∃ l,IsDays x l/\m=spansT x k i l)
def needA(x:TF)(k i d:Int):List Int:=if Jv x k i d=0/\0<=dateOn x k i d then needT x k i d else []
def heldA(x:TF)(k i d:Int):Bool:=decide (Jv x k i d=0/\0<=dateOn x k i d)
variable {h:Cells}{x:TF}{k d i:Int}{r:Value}{h':LH}
theorem SpansA.one{x:TF}{k i:Int}{m a:List Sp}(h:SpansA x k i m)(h':SpansA x k i a):m=a:=by
 rcases h with⟨h1,rfl⟩|⟨h1,l,h2,rfl⟩<;>rcases h' with⟨h3,rfl⟩|⟨h3,c,b,rfl⟩
 ·rfl
 ·exact absurd h3 h1
 ·exact absurd h1 h3
 ·rw[h2.one b]
theorem ProtR.form(hr:ProtR h x k d r):∃ p n c,r=.tuple #[.slice p n c,.int .i64 (Qu x k d)]/\Sl BoolE 1 h p n (protA x k d)/\n<=c:=hr
theorem DatesR.form(hr:DatesR h x k d r):∃ p n c,r=.tuple #[.slice p n c,.int .i64 (Qu x k d)]/\Sl IntE 1 h p n (datesA x k d)/\n<=c:=by
 rcases hr with⟨h1,rfl⟩|⟨h1,p,n,c,rfl,s,a⟩
 ·exact⟨none,0,0,rfl,by rw[datesA,if_neg h1];exact Sl.nil,Nat.le_refl _⟩
 ·exact⟨p,n,c,by rw[h1],by rw[datesA,if_pos h1];exact s,a⟩
theorem TurnsR.form(hr:TurnsR h x k d r):∃ p n c,r=.tuple #[.slice p n c,.int .i64 (Qu x k d)]/\Sl IntE 1 h p n (turnsA x k d)/\n<=c:=by
 rcases hr with⟨h1,rfl⟩|⟨h1,p,n,c,rfl,s,a⟩
 ·exact⟨none,0,0,rfl,by rw[turnsA,if_neg h1];exact Sl.nil,Nat.le_refl _⟩
 ·exact⟨p,n,c,by rw[h1],by rw[turnsA,if_pos h1];exact s,a⟩
theorem SpansR.form(hr:SpansR h x k i r):∃ p n c m,r=.tuple #[.slice p n c,.int .i64 (Q9 x k i)]/\SpansA x k i m/\Sl SpE 2 h p n m/\n<=c:=by
 rcases hr with⟨h1,rfl⟩|⟨h1,p,n,c,l,rfl,a,s,b⟩
 ·exact⟨none,0,0,[],rfl,.inl ⟨h1,rfl⟩,Sl.nil,Nat.le_refl _⟩
 ·exact⟨p,n,c,_,by rw[h1],.inr ⟨h1,l,a,rfl⟩,s,b⟩
theorem NeedsR.form(hr:NeedsR h x k i d r):∃ p n c,r=.tuple #[.slice p n c,.bool (heldA x k i d),.int .i64 (Jv x k i d)]/\Sl IntE 1 h p n (needA x k i d)/\n<=c:=by
 rcases hr with⟨h1,rfl⟩|⟨h1,h2,rfl⟩|⟨h1,h2,p,n,c,rfl,s,e⟩
 ·exact⟨none,0,0,by rw[heldA,decide_eq_false (fun h=>h1 h.1)],by rw[needA,if_neg (fun h=>h1 h.1)];exact Sl.nil,Nat.le_refl _⟩
 ·exact⟨none,0,0,by rw[heldA,decide_eq_false (fun h=>h2 h.2),h1],by rw[needA,if_neg (fun h=>h2 h.2)];exact Sl.nil,Nat.le_refl _⟩
 ·exact⟨p,n,c,by rw[heldA,decide_eq_true ⟨h1,h2⟩,h1],by rw[needA,if_pos ⟨h1,h2⟩];exact s,e⟩
/-! ### b a examples -/
def exDays:List Int:=[0,12,15,18,20,22,25,27,40,44,50,10000]
theorem ex_days:IsDays exT exDays:=by
 refine⟨by decide +kernel,fun v=>?_⟩;simp only[exDays,exT,List.mem_cons,List.not_mem_nil,or_false,exists_eq_or_imp,false_and,exists_false,exists_eq_left];omega
theorem ex1:Qu exT 0 15=0/\protA exT 0 15=[true,false,true]:=by decide +kernel
theorem ex2:Qu exT 1 40=0/\protA exT 1 40=[false,true,false]:=by decide +kernel
theorem ex3:Qu exT 0 18=0/\datesA exT 0 18=[3,-1,12]:=by decide +kernel
theorem ex4:Qu exT 0 44=0/\datesA exT 0 44=[3,12,-1]:=by decide +kernel
theorem ex5:Q9 exT 0 0=0/\spansT exT 0 0 exDays=[⟨12,39⟩,⟨44,9999⟩]:=by decide +kernel
theorem ex6:Q9 exT 0 1=0/\spansT exT 0 1 exDays=[⟨12,14⟩,⟨25,9999⟩]:=by decide +kernel
theorem ex7:Qu exT 1 45=0/\turnsA exT 1 45=[0]:=by decide +kernel
theorem ex8:Qu exT 1 46=0/\turnsA exT 1 46=[]:=by decide +kernel
theorem ex9:Jv exT 0 0 44=0/\heldA exT 0 0 44=true/\needA exT 0 0 44=[0,5]:=by decide +kernel
theorem ex_spans(h0:Q9 exT 0 i=0){m:List Sp}(h:SpansA exT 0 i m):m=spansT exT 0 i exDays:=h.one (.inr ⟨h0,_,ex_days,rfl⟩)
theorem c2017{h:LH}(e0:h.chans=[])(m0:h.pend=[])(hk:Kinds h.get):FW XT Tryz.prog 17 #[] h fun r h'=>r=.bool true/\Rd h.get h'.get/\h'.chans=[]/\h'.pend=[]/\h'.todo=h.todo:=by
 refine w2017 XT_ok ?_;refine t_gr c2048 ?_;rintro _ h0 U ⟨f,rfl,hx⟩;have e:treatyV f exT=.agg #[.int .i64 3,.int .i64 2,.int .i64 10,.int .i64 20,.int .i64 6,.int .i64 5,.slice f.p f.n f.c]:=rfl;rw[e];refine gZ ?_;have E:=hk.le U.1;refine t_gr (c2018 E hx 0 15) ?_;intro r1 h1 w hr;obtain⟨p1,n1,k1,rfl,s1,_⟩:=hr.form;rw[ex1.1];rw[ex1.2]at s1;refine gZ ?_;have F:=E.le w.1;have M:=hx.le w.1;refine t_gr (c2018 F M 1 40) ?_;intro r2 h2 x hr;obtain⟨p2,n2,k2,rfl,s2,_⟩:=hr.form;rw[ex2.1];rw[ex2.2]at s2;refine gZ ?_;have G:=F.le x.1;have N:=M.le x.1;refine t_gr (c2026 G N 0 18) ?_;intro r3 h3 y hr;obtain⟨p3,n3,k3,rfl,X,_⟩:=hr.form;rw[ex3.1];rw[ex3.2]at X;refine gZ ?_;have H:=G.le y.1;have O:=N.le y.1;refine t_gr (c2026 H O 0 44) ?_;intro r4 h4 z hr;obtain⟨p4,n4,k4,rfl,Y,_⟩:=hr.form;rw[ex4.1];rw[ex4.2]at Y;refine gZ ?_;have I:=H.le z.1;have P:=O.le z.1;refine t_gr (c2023 I P 0 0) ?_;intro r5 h5 A hr;obtain⟨p5,n5,k5,m5,rfl,j1,Z,_⟩:=hr.form;obtain rfl:=ex_spans ex5.1 j1;rw[ex5.1];rw[ex5.2]at Z;refine gZ ?_;have J:=I.le A.1;have Q:=P.le A.1;refine t_gr (c2023 J Q 0 1) ?_;intro r6 h6 B hr;obtain⟨p6,n6,k6,m6,rfl,l1,s6,_⟩:=hr.form;obtain rfl:=ex_spans ex6.1 l1;rw[ex6.1];rw[ex6.2]at s6;refine gZ ?_;have K:=J.le B.1;have R:=Q.le B.1;refine t_gr (c2029 K R 1 45) ?_;intro r7 h7 C hr;obtain⟨p7,n7,k7,rfl,s7,_⟩:=hr.form;rw[ex7.1];rw[ex7.2]at s7;refine gZ ?_;have L:=K.le C.1;have S:=R.le C.1;refine t_gr (c2029 L S 1 46) ?_;intro r8 h8 D hr;obtain⟨p8,n8,k8,rfl,s8,_⟩:=hr.form;rw[ex8.1];rw[ex8.2]at s8;refine gZ ?_;have j0:=L.le D.1;have q0:=S.le D.1;have v:=D;have u:=LH.le_trans C v;have t:=LH.le_trans B u;have s:=LH.le_trans A t;have q:=LH.le_trans z s;have o:=LH.le_trans y q;have m:=LH.le_trans x o;have l:=LH.le_trans U (LH.le_trans w m);refine Qz (c2044 (by rw[l.2.1,e0]) (by rw[l.2.2.1,m0]) j0 q0 0 0 44) ?_;rintro r9 h9 ⟨k,a0,l0,o0,hr⟩;obtain⟨p9,n9,k9,rfl,s9,_⟩:=hr.form;rw[ex9.1,ex9.2.1];rw[ex9.2.2]at s9;refine gZ ?_;have s1:=(s1.le BoolE.grow m.1).rd BoolE.grow k;have s2:=(s2.le BoolE.grow o.1).rd BoolE.grow k;have X:=(X.le IntE.grow q.1).rd IntE.grow k;have Y:=(Y.le IntE.grow s.1).rd IntE.grow k;have Z:=(Z.le SpE.grow t.1).rd SpE.grow k;have s6:=(s6.le SpE.grow u.1).rd SpE.grow k;have s7:=(s7.le IntE.grow v.1).rd IntE.grow k;have s8:=s8.rd IntE.grow k;have k0:n8=0:=s8.1;subst k0;have W:=(Ja l.1).trans k;refine Jw (fun vs h'=>vs=[.bool false]/\h9=h') ?_ ?_
 ·refine Qt (fun e=>absurd e (by decide)) (fun _=>?_);refine Qt (fun e=>absurd e (by decide)) (fun _=>?_);refine Qt (fun e=>absurd e (by decide)) (fun _=>?_);refine Qt (fun e=>absurd e (by decide)) (fun _=>?_);refine Qt (fun e=>absurd e (by decide)) (fun _=>?_);refine Qt (fun e=>absurd e (by decide)) (fun _=>?_);refine Qt (fun e=>absurd e (by decide)) (fun _=>?_);refine Qt (fun e=>absurd e (by decide)) (fun _=>?_);refine Qt (fun e=>absurd e (by decide)) (fun _=>?_);exact Qa ⟨rfl,rfl⟩
 rintro vs _ ⟨rfl,rfl⟩;refine gZ ?_;refine Jw (fun vs h'=>vs=[.bool false]/\h9.le h') ?_ ?_
 ·refine t_bools [true,false,true] (by decide) rfl (by decide) (by kernel_rfl) fun q1 g1 V u1=>?_;refine gZ ?_;have j:=c2020 (h:=g1) (c:=k1) (d:=3) (s1.le BoolE.grow V.1) u1;rw[decide_eq_true rfl]at j;refine t_pu j ?_;refine gZ ?_;refine Qt (fun e=>absurd e (by decide)) (fun _=>?_);refine t_bools [false,true,false] (by decide) rfl (by decide) (by kernel_rfl) fun q2 g2 s0 u2=>?_;refine gZ ?_;have i:=LH.le_trans V s0;have j:=c2020 (h:=g2) (c:=k2) (d:=3) (s2.le BoolE.grow i.1) u2;rw[decide_eq_true rfl]at j;refine t_pu j ?_;refine gZ ?_;refine Qt (fun e=>absurd e (by decide)) (fun _=>?_);refine t_ints [3,-1,12] (by decide) rfl (by decide) (by kernel_rfl) fun q3 g3 u0 u3=>?_;refine gZ ?_;have i:=LH.le_trans i u0;have j:=c35 (h:=g3) (c:=k3) (d:=3) (X.le IntE.grow i.1) u3;rw[decide_eq_true rfl]at j;refine t_pu j ?_;refine gZ ?_;refine Qt (fun e=>absurd e (by decide)) (fun _=>?_);refine t_ints [3,12,-1] (by decide) rfl (by decide) (by kernel_rfl) fun q4 g4 w0 u4=>?_;refine gZ ?_;have i:=LH.le_trans i w0;have j:=c35 (h:=g4) (c:=k4) (d:=3) (Y.le IntE.grow i.1) u4;rw[decide_eq_true rfl]at j;refine t_pu j ?_;refine gZ ?_;refine Qt (fun e=>absurd e (by decide)) (fun _=>?_);refine Qt (fun e=>absurd e (by decide)) (fun _=>?_);refine t_ints [0,5] (by decide) rfl (by decide) (by kernel_rfl) fun q5 g5 x0 u5=>?_;refine gZ ?_;have i:=LH.le_trans i x0;have j:=c35 (h:=g5) (c:=k9) (d:=2) (s9.le IntE.grow i.1) u5;rw[decide_eq_true rfl]at j;refine t_pu j ?_;refine gZ ?_;refine Qt (fun e=>absurd e (by decide)) (fun _=>?_);exact Qa ⟨rfl,i⟩
 rintro vs g ⟨rfl,i⟩;refine gZ ?_;refine t_pu (c2049 _ _) ?_;refine gZ ?_;refine t_pu (c2049 _ _) ?_;refine gZ ?_;refine Gz [.int .i64 12,.int .i64 39,.int .i64 44,.int .i64 9999] und22 inf30 (by decide) (by decide) (by kernel_rfl) ?_;intro q6 g6 y0 _ u6;refine gZ ?_;have i:=LH.le_trans i y0;have j:=c2025 (h:=g6) (c:=k5) (d:=2) (Z.le SpE.grow i.1) (sp_two (a:=⟨12,39⟩) (b:=⟨44,9999⟩) u6);rw[decide_eq_true rfl]at j;refine t_pu j ?_;refine yT ?_;refine t_pu (c2049 _ _) ?_;refine gZ ?_;refine t_pu (c2049 _ _) ?_;refine gZ ?_;refine Gz [.int .i64 12,.int .i64 14,.int .i64 25,.int .i64 9999] und22 inf30 (by decide) (by decide) (by kernel_rfl) ?_;intro q7 g7 z0 _ u7;refine gZ ?_;have i:=LH.le_trans i z0;have j:=c2025 (h:=g7) (c:=k6) (d:=2) (s6.le SpE.grow i.1) (sp_two (a:=⟨12,14⟩) (b:=⟨25,9999⟩) u7);rw[decide_eq_true rfl]at j;refine t_pu j ?_;refine yT ?_;refine t_ints [0] (by decide) rfl (by decide) (by kernel_rfl) fun q8 g8 a1 u8=>?_;refine gZ ?_;have i:=LH.le_trans i a1;have j:=c35 (h:=g8) (c:=k7) (d:=1) (s7.le IntE.grow i.1) u8;rw[decide_eq_true rfl]at j;refine t_pu j ?_;refine yT ?_;exact Qe ⟨rfl,W.trans (Ja i.1),i.2.1.trans a0,i.2.2.1.trans l0,by rw[i.2.2.2,o0,l.2.2.2]⟩
def Fin(h:LH):Value->LH->Prop:=fun r h'=>r=.bool true/\h'.chans=[]/\h'.pend=[]/\h'.todo=h.todo
structure Idle(h h':LH):Prop where
 rd:Rd h.get h'.get
 chans:h'.chans=[]
 pend:h'.pend=[]
 todo:h'.todo=h.todo
theorem Idle.of{h:LH}(a:h.chans=[])(b:h.pend=[])(hle:h.le h'):Idle h h':=⟨Ja hle.1,by rw[hle.2.1,a],by rw[hle.2.2.1,b],hle.2.2.2⟩
theorem Idle.fin{h:LH}(i:Idle h h'):Fin h (.bool true) h':=⟨rfl,i.chans,i.pend,i.todo⟩
end
section
open Go.TM.Tr
attribute [local irreducible] T.wp CV FWK
variable {x:TF}{k d:Int}{j:Nat}
theorem dates_at(h:j<x.items.toNat):(datesT x k d)[j]?=some (dateOn x k j d):=by
 unfold datesT;rw[List.getElem?_map,List.getElem?_range h];rfl
theorem prot_at(h:j<x.items.toNat):(protT x k d)[j]?=some (decide (dateOn x k j d>=0)):=by
 unfold protT;rw[List.getElem?_map,dates_at h];rfl
theorem prot_len(x:TF)(k d:Int):(protT x k d).length=x.items.toNat:=by unfold protT;rw[List.length_map,dates_len]
theorem bool_at{h:Cells}{p:Option Addr}{n:Nat}{l:List Bool}(s:Sl BoolE 1 h p n l){b:Bool}(hb:l[j]?=some b):∃ a,p=some a/\h.cell? (a.add (j*1))=some (.bool b):=by
 obtain⟨a,c,e⟩:=s.2.2 j b hb;unfold BoolE at e;rw[Ga]at e;exact⟨a,c,e⟩
end
section
open Go.TM.Tr
attribute [local irreducible] T.wp CV FWK
theorem mod_in{n m:Int}(a:0<=n/\n<=65535)(hm:0<m):Int.tmod (IntKind.i64.wrap n) m=n%m/\0<=n%m/\n%m<m:=by
 rw[Qj (by omega) (by omega),Int.tmod_eq_emod_of_nonneg a.1];exact⟨rfl,Int.emod_nonneg _ (by omega),Int.emod_lt_of_pos _ hm⟩
theorem day_mod(n:Int):0<=n%10000/\n%10000<=9999:=by omega
theorem asked_fit{x:TF}(h:checkT x=0){k d:Int}(b:0<=k/\k<x.lands)(a:0<=d/\d<=9999):Qu x k d=0:=by
 have h1:askedT x k=0:=by rw[askedT,if_neg (by simp[h]),if_neg (by simp[inB];omega)]
 rw[Qu,if_neg (by simp[h1]),if_pos (by simp[dayB,inB];omega)]
end
end Go.Y.Tre
section
namespace Go.TM
open Go.Sem
variable {P:Program} {h:Cells} {E:Halt->Cells->Prop}
variable {Q:Value->Cells->Prop}{ty sT xT el xe:TypeId}{z:Value}{p:Option Addr}{n c m mc s by_:Nat}{b:Addr}{vs ws:List Value}
theorem lwp_appendB{ts:Array TypeId}{inf:TypeInfo}(h0:ts[0]?=some sT)(h1:ts[1]?=some xT)(hu:P.underlying sT=some (.slice el))(Y:P.underlying xT=some (.slice xe))
 (G:P.info? el=some inf)(Z:inf.zero=some z)(L:z.cells.size=inf.size)(X:n+m<=2^62)(A:¬ n+m<=c->Builtin.nextslicecap (n+m) c*inf.bytes<=2^48)(own:OwnRow el inf.size h p n c vs)(y:ws.length=m*inf.size)(hc:∀ (j:Nat) v,ws[j]?=some v->h.cell? (b.add j)=some v)(one:∀ v∈ws,isOne v=true)(hm:0<m)
 (R:∀ C O h',OwnRow el inf.size h' C (n+m) O (vs++ws)->KeptBut p h h'->(C=p\/∃ r,C=some ⟨r,0,none⟩/\h r=none)->Q (.slice C (n+m) O) h'):Qi P (Builtin.append_ ts ty #[.slice p n c,.slice (some b) m mc]) Q E h:=by
 unfold Builtin.append_;rw[h0,h1];simp only[List.getElem?_toArray,List.getElem?_cons_zero,List.getElem?_cons_succ];simp only[lwp_bind,Qg hu,Q4 G,Qg Y,Ql,Bool.false_eq_true,if_false,Bool.not_false,if_true,Builtin.lenOf];obtain⟨f,q⟩:=own;by_cases d:n+m<=c
 ·simp only[if_pos d,lwp_bind,Builtin.firstCells];refine Kx (l:=ws) y hc ?_;rcases q with⟨rfl,rfl,rfl⟩|⟨r,cs,rfl,hr,u,I,hv⟩
  ·omega
  ·simp only[];have hle:n*inf.size+ws.length<=cs.size:=by rw[y,u,<- Nat.add_mul];exact Nat.mul_le_mul_right _ d
   have D:Addr.add ⟨r,0,none⟩ (n*inf.size)=⟨r,n*inf.size,none⟩:=by unfold Addr.add;split<;>simp_all
   rw[D];rw[lwp_bind];refine Zr ws 0 h r (n*inf.size) cs el hr (by omega) one ?_;rw[Ql];refine R _ _ _ ⟨by simp[f,y,Nat.add_mul],.inr ⟨r,_,rfl,Qd _ _ _,?_,d,?_⟩⟩ ?_ (.inl rfl)
   ·rw[Hi];exact u
   ·intro j v i;rw[setMany_get (by omega)];by_cases H:j<vs.length
    ·rw[if_neg (by omega)];rw[List.getElem?_append_left H]at i;exact hv j v i
    ·rw[List.getElem?_append_right (by omega)]at i;have W:j-vs.length<ws.length:=(List.getElem?_eq_some_iff.1 i).1;rw[if_pos (by omega),<- i];congr 1;omega
   ·intro N x g J;have:N≠r:=fun e=>J _ rfl e.symm;rw[Qk _ _ this];exact g
 ·have B:¬ ((((n+m:Nat):Int)>IntKind.i64.max)/\((false:Bool)=true\/inf.bytes=0)):=by
   rintro⟨h1,_⟩;have e:IntKind.i64.max=9223372036854775807:=rfl;rw[e]at h1;omega
  have k:¬ (Builtin.nextslicecap (n+m) c*inf.bytes>2^48):=by have:=A d;omega
  have w:¬ ((((n+m:Nat):Int)>IntKind.i64.max)/\(False\/inf.bytes=0)):=fun h=>B ⟨h.1,h.2.imp_left False.elim⟩;simp only[if_neg d,lwp_bind,Zw G,if_neg w,if_neg k,Ql];have F:∀ {K:Nat->Cells->Prop},(∀ a,n+m<=a->K a h)->Qi P (choose (Question.appendCap (n+m) c el)) K E h:=by
   intro K s;show (if _ then _ else _);split
   ·rename_i V;simp[Question.forced]at V
   ·intro t;exact s _ (Nat.le_add_right _ _)
  refine F fun a D=>?_;have o:∀ {K:Unit->Cells->Prop},K () h->Qi P (askRoom (a*inf.bytes)) K E h:=by
   intro K s;unfold askRoom;split
   ·exact⟨rfl,s⟩
   ·exact s
  refine o ?_;have hold:∀ {K:Array Value->Cells->Prop},(∀ old:Array Value,old.toList=vs->K old h)->Qi P (Builtin.firstCells inf.size n (Value.slice p n c)) K E h:=by
   intro K s;rcases q with⟨rfl,rfl,rfl⟩|⟨r,cs,rfl,hr,u,I,hv⟩
   ·have:vs=[]:=List.eq_nil_of_length_eq_zero (by rw[f];simp);simp only[Builtin.firstCells,Ql];exact s #[] (by rw[this])
   ·simp only[Builtin.firstCells];refine Kx (l:=vs) f (fun j v i=>?_) (s _ rfl);have e:Addr.add ⟨r,0,none⟩ j=⟨r,j,none⟩:=by unfold Addr.add;split<;>simp_all
    rw[e];simp only[Cells.cell?,hr,Option.isSome_none,Bool.false_eq_true,if_false];exact hv j v i
  refine hold fun old hold=>?_;simp only[Builtin.firstCells];refine Kx (l:=ws) y hc ?_;simp only[Jp G Z];refine Kw fun r hr=>?_;have M:(Builtin.zeroCells z.cells (a-(n+m))).size=(a-(n+m))*inf.size:=by simp[Builtin.zeroCells,L]
  refine R _ _ _ ⟨by simp[f,y,Nat.add_mul],.inr ⟨r,_,rfl,Qd _ _ _,?_,D,?_⟩⟩ ?_ (.inr ⟨r,rfl,hr⟩)
  ·have S:old.size=n*inf.size:=by rw[<- Array.length_toList,hold,f]
   have U:(ws.toArray).size=m*inf.size:=by simp[y]
   simp only[Array.size_append,S,U,M];rw[<- Nat.add_mul,<- Nat.add_mul];congr 1;omega
  ·intro j v i;have hlen:j<(vs++ws).length:=(List.getElem?_eq_some_iff.1 i).1;rw[<- Array.getElem?_toList,Array.toList_append,Array.toList_append,hold,List.getElem?_append_left (by simpa using hlen)];exact i
  ·intro N x g _;have:N≠r:=by rintro rfl;rw[hr]at g;cases g
   rw[Qk _ _ this];exact g
theorem lwp_appendSB{ts:Array TypeId}(h0:ts[0]?=some sT)(h1:ts[1]?=some xT)(hu:P.underlying sT=some (.slice el))(x:P.underlying xT=some (.slice xe))
 (t:(P.info? el).map (fun i=>(i.size,i.bytes,i.zero))=some (s,by_,some z))(f:z.cells.size=s)(e:n+m<=2^62)(a:¬ n+m<=c->Builtin.nextslicecap (n+m) c*by_<=2^48)(own:OwnRow el s h p n c vs)(u:ws.length=m*s)(hc:∀ (j:Nat) v,ws[j]?=some v->h.cell? (b.add j)=some v)(one:∀ v∈ws,isOne v=true)(hm:0<m)
 (w:∀ d g h',OwnRow el s h' d (n+m) g (vs++ws)->KeptBut p h h'->(d=p\/∃ r,d=some ⟨r,0,none⟩/\h r=none)->Q (.slice d (n+m) g) h'):Qi P (Builtin.append_ ts ty #[.slice p n c,.slice (some b) m mc]) Q E h:=by
 obtain⟨i,k,l,o,q⟩:=Zk t;subst l;subst o;exact lwp_appendB h0 h1 hu x k q f e a own u hc one hm w
theorem t_appendB{X:XP}{Q:Leaf->LH->Prop}{h:LH}{k:Value->T}{ts:Array TypeId}(h0:ts[0]?=some sT)(h1:ts[1]?=some xT)(hu:P.underlying sT=some (.slice el))(u:P.underlying xT=some (.slice xe))
 (o:(P.info? el).map (fun i=>(i.size,i.bytes,i.zero))=some (s,by_,some z))(l:z.cells.size=s)(g:n+m<=2^62)(f:¬ n+m<=c->Builtin.nextslicecap (n+m) c*by_<=2^48)(own:OwnRow el s h.get p n c vs)(t:ws.length=m*s)(hc:∀ (j:Nat) v,ws[j]?=some v->h.get.cell? (b.add j)=some v)(one:∀ v∈ws,isOne v=true)(hm:0<m)
 (q:∀ d e h',OwnRow el s h' d (n+m) e (vs++ws)->KeptBut p h.get h'->(d=p\/∃ r,d=some ⟨r,0,none⟩/\h.get r=none)->(k (.slice d (n+m) e)).wp X P Q { h with get:=h' }):(T.sem false (Builtin.append_ ts ty #[.slice p n c,.slice (some b) m mc]) k).wp X P Q h :=
 J3 (A:=fun v h'=>∃ d e,v=.slice d (n+m) e/\OwnRow el s h' d (n+m) e (vs++ws)/\KeptBut p h.get h'/\(d=p\/∃ r,d=some ⟨r,0,none⟩/\h.get r=none)) (lwp_appendSB h0 h1 hu u o l g f own t hc one hm fun d e h' a b c=>⟨d,e,rfl,a,b,c⟩)
  (by rintro v h' ⟨d,e,rfl,a,b,c⟩;exact q d e h' a b c)
section
variable {P:Program} {X:XP} {Q:Leaf->LH->Prop}
theorem Di{α:Type}{E:Cells->Addr->α->Prop}{Enc:α->List Value->Prop}{h h₀:LH}{k:Value->T}{ts:Array TypeId}{ty sT xT el xe:TypeId}{s by_:Nat}{z:Value}{p q:Option Addr}{n c m mc:Nat}{l f:List α}(h0:ts[0]?=some sT)(h1:ts[1]?=some xT)(hu:P.underlying sT=some (.slice el))(G:P.underlying xT=some (.slice xe))
 (D:(P.info? el).map (fun i=>(i.size,i.bytes,i.zero))=some (s,by_,some z))(w:z.cells.size=s)(H:n+m<=2^62)(d:¬ n+m<=c->Builtin.nextslicecap (n+m) c*by_<=2^48)(g:Growing Enc el s h₀.get h.get p n c l)(hle:h₀.le h)(src:Sl E s h.get q m f)(he:ToldE E Enc s h.get)
 (F:∀ j e h',h₀.le h'->(∀ r y,(∀ a,p=some a->a.block≠r)->h.get r=some y->h'.get r=some y)->Growing Enc el s h₀.get h'.get j (n+m) e (l++f)->(k (.slice j (n+m) e)).wp X P Q h'):(T.sem false (Builtin.append_ ts ty #[.slice p n c,.slice q m mc]) k).wp X P Q h:=by
 obtain⟨vs,o,r⟩:=g.row;by_cases hm:m=0
 ·subst hm;have u:f=[]:=List.eq_nil_of_length_eq_zero src.1.symm;subst u;refine t_append0 h0 h1 hu G D o.le_cap ?_;have:=F p c h hle (fun r y _ A=>A) (by rw[List.append_nil];exact g);exact this
 ·obtain⟨x,b,_,t,_⟩:=src.at (i:=0) (by omega);subst t;obtain⟨ws,w1,w2,w3,w4⟩:=flat he src f.length (Nat.le_refl _);rw[List.take_length]at w1;have v:=src.1;refine t_appendB h0 h1 hu G D w H d o (by rw[w2,v]) w3 w4 (by omega) fun j e h' a b c=>?_;obtain⟨B,C⟩:=Hs hle.1 g.new b c;exact F j e _ ⟨B,hle.2⟩ (fun r y hr A=>b r y A hr) ⟨⟨vs++ws,a,r.append w1⟩,C⟩
end
theorem cap_first(m:Nat):¬ 0+m<=0->Builtin.nextslicecap (0+m) 0=m:=by
 intro h;unfold Builtin.nextslicecap;rw[if_pos (by omega)];omega
theorem cap_next(hc:m<=c):¬ m+1<=c->Builtin.nextslicecap (m+1) c<=m+m / 4+600:=by
 intro h;obtain rfl:c=m:=by omega
 unfold Builtin.nextslicecap;split
 ·omega
 ·split
  ·omega
  ·unfold Builtin.growBy;split
   ·omega
   ·unfold Builtin.growBy;rw[if_pos (by omega)];omega
end Go.TM
end
namespace Go.Y.Tre
section
open Go.TM.Tr
attribute [local irreducible] T.wp CV FWK
def evCells(e:Ev)(q:Option Addr)(m c:Nat):List Value:=[.int .i64 e.kind,.int .i64 e.day,.int .i64 e.land,.slice q m c,.int .i64 e.since]
variable {h:Cells}{q:Option Addr}{m c r:Nat}{el:TypeId}
theorem ev_src{h0:Cells}{e:Ev}(hm:m<=c)(he:Sl IntE 1 h0 q m e.items)(hc:∀ (j:Nat) w,(evCells e q m c)[j]?=some w->h.cell? (Addr.add ⟨r,0,none⟩ j)=some w):Sl (EventB h0) 5 h (some ⟨r,0,none⟩) 1 [e]:=by
 refine⟨rfl,by simp,fun i x a=>⟨_,rfl,?_⟩⟩
 match i,a with
 | 0,a =>
  cases a;refine⟨q,m,c,fun j w b=>?_,hm,he⟩;rw[Nat.zero_mul,U6];exact hc j w b
 | i+1,a=>simp at a
theorem own_of{α:Type}{Enc:α->List Value->Prop}{k:Nat}{h₀:Cells}{n:Nat}{l:List α}(g:Growing Enc el k h₀ h (some ⟨r,0,none⟩) n c l):∃ cs,h r=some (true,.cells cs el (0,0)):=by
 obtain⟨vs,⟨_,h2⟩,_⟩:=g.row;rcases h2 with⟨h3,_⟩|⟨b,cs,h3,a,_⟩
 ·cases h3
 ·cases h3;exact⟨cs,a⟩
theorem own_cells{e:Ev}(b:h r=some (true,.cells #[.int .i64 e.kind,.int .i64 e.day,.int .i64 e.land,.slice q m c,.int .i64 e.since] el (0,0))):∀ (j:Nat) w,(evCells e q m c)[j]?=some w->h.cell? (Addr.add ⟨r,0,none⟩ j)=some w:=by
 intro j w a;rw[Qh,Nat.zero_add];simp only[Cells.cell?,b,Option.isSome_none,Bool.false_eq_true,if_false];simpa[evCells] using a
theorem c2035{h:LH}{f:TC}{x:TF}(S:TreatyR h.get f x)(R:x.events.length*56<=2^47){e:Ev}(hm:m<=c)(he:Sl IntE 1 h.get q m e.items) :
  Gr Tryz.prog 15 #[treatyV f x,.agg #[.int .i64 e.kind,.int .i64 e.day,.int .i64 e.land,.slice q m c,.int .i64 e.since]] h fun r h'=>∃ P b,r=.tuple #[treatyV P (add x e),.bool b]/\TreatyR h'.get P (add x e)/\(b=true->checkT (add x e)=0):=by
 refine w2035 Qn ?_;have X:=S.2.1;have src:∀ h':LH,h.le h'->Sl (EventB h.get) 5 h'.get f.p f.n x.events:=fun h' hle=>EventB.of (Ja hle.1) S.2;have k:¬ 0+f.n<=0->Builtin.nextslicecap (0+f.n) 0*56<=2^48:=fun M=>by rw[cap_first f.n M];omega
 have l:∀ j,0+f.n<=j->¬ (0+f.n)+1<=j->Builtin.nextslicecap (0+f.n+1) j*56<=2^48:=fun j hc M=>by
  have:=Nat.mul_le_mul_right 56 (cap_next hc M);omega
 refine Jw (fun vs h'=>∃ B A j,vs=[.int .i64 x.items,.int .i64 x.lands,.int .i64 x.start,.int .i64 x.depend,.int .i64 x.refuse,.int .i64 x.turn,.slice B A j]/\h.le h'/\Growing (EventEnc h.get) 58 5 h.get h'.get B A j (x.events++[e])) ?_ ?_
 ·refine Hg ?_ ?_
  ·refine Uw (h₀:=h) (Enc:=EventEnc h.get) undEvs infEv (LH.le_refl _) fun r h1 _ d F=>?_;refine gZ ?_;refine Hg ?_ ?_
   ·refine Di (h₀:=h) (E:=EventB h.get) (Enc:=EventEnc h.get) rfl rfl undEvs undEvs infEv rfl (by omega) k F d (src _ d) W7 fun p2 c2 h2 s _ w=>?_;obtain⟨_,H,_⟩:=w.row;refine gZ ?_;refine Gz (evCells e q m c) undEvs infEv (by decide) (by decide) (by kernel_rfl) fun I h3 i _ L=>?_;refine gZ ?_;refine Di (h₀:=h) (E:=EventB h.get) (Enc:=EventEnc h.get) rfl rfl undEvs undEvs infEv rfl (by omega) (l _ H.le_cap) (w.le i.1) (LH.le_trans s i) (ev_src hm he L) W7 fun p4 c4 Q t _ G=>?_;refine gZ ?_;exact Qa ⟨_,_,_,rfl,t,G⟩
   ·refine Hf undEvs infEv (by decide) (by decide) (cells:=#[.int .i64 e.kind,.int .i64 e.day,.int .i64 e.land,.slice q m c,.int .i64 e.since]) (by kernel_rfl) fun I u=>?_;have i:=Qp (x:=(true,.cells #[.int .i64 e.kind,.int .i64 e.day,.int .i64 e.land,.slice q m c,.int .i64 e.since] 58 (0,0))) u;refine gZ ?_;have z:=LH.le_trans d i;obtain⟨U,W⟩:=own_of F;refine Di (h₀:=h) (E:=EventB h.get) (Enc:=EventEnc h.get) rfl rfl undEvs undEvs infEv rfl (by omega) k (F.le i.1) z (src _ z) W7 fun p2 c2 h2 s D w=>?_;obtain⟨_,H,_⟩:=w.row;have C:=D I _ (fun a K=>by cases K;exact Z9 u W) (Qd _ _ _);refine gZ ?_;refine Di (h₀:=h) (E:=EventB h.get) (Enc:=EventEnc h.get) rfl rfl undEvs undEvs infEv rfl (by omega) (l _ H.le_cap) w s (ev_src hm he (own_cells C)) W7 fun p4 c4 Q t _ G=>?_;refine gZ ?_;exact Qa ⟨_,_,_,rfl,t,G⟩
  ·refine Hf undEvs infEv (by decide) (by decide) (cells:=#[.int .i64 e.kind,.int .i64 e.day,.int .i64 e.land,.slice q m c,.int .i64 e.since]) (by kernel_rfl) fun I u=>?_;have i:=Qp (x:=(true,.cells #[.int .i64 e.kind,.int .i64 e.day,.int .i64 e.land,.slice q m c,.int .i64 e.since] 58 (0,0))) u;refine gZ ?_;refine Uw (h₀:=h) (Enc:=EventEnc h.get) undEvs infEv i fun r h1 O d F=>?_;refine gZ ?_;have J:=d.1 I _ (Qd _ _ _);have y:=LH.le_trans i d;refine Di (h₀:=h) (E:=EventB h.get) (Enc:=EventEnc h.get) rfl rfl undEvs undEvs infEv rfl (by omega) k F y (src _ y) W7 fun p2 c2 h2 s D w=>?_;obtain⟨_,H,_⟩:=w.row;have C:=D I _ (fun a K=>by cases K;exact(Z9 O (Qd _ _ _)).symm) J;refine gZ ?_;refine Di (h₀:=h) (E:=EventB h.get) (Enc:=EventEnc h.get) rfl rfl undEvs undEvs infEv rfl (by omega) (l _ H.le_cap) w s (ev_src hm he (own_cells C)) W7 fun p4 c4 Q t _ G=>?_;refine gZ ?_;exact Qa ⟨_,_,_,rfl,t,G⟩
 rintro vs h1 ⟨B,A,j,rfl,d,g⟩;have N:=g.count EventEnc.len (by omega);rw[List.length_append,List.length_singleton]at N;have v:TreatyR h1.get ⟨B,A,j⟩ (add x e):=by
  obtain⟨_,o,_⟩:=g.row;exact⟨o.le_cap,g.sl EventEnc.len (by omega) (EventEnc.e (Ja d.1)) (by show (x.events++[e]).length<_;rw[List.length_append,List.length_singleton];omega)⟩
 refine yJ (fun V=>?_) (fun V=>?_)
 ·refine t_pu (c2022 (f:=⟨B,A,j⟩) (x:=add x e) v) ?_;refine gZ ?_;exact Qe ⟨d,⟨B,A,j⟩,_,rfl,v,fun hb=>by simpa using hb⟩
 ·refine gZ ?_;refine Hg ?_ ?_
  ·refine gZ ?_;exact Qe ⟨d,⟨B,A,j⟩,_,rfl,v,fun hb=>by cases hb⟩
  ·refine gZ ?_;exact Qe ⟨d,⟨B,A,j⟩,_,rfl,v,fun hb=>by cases hb⟩
end
section
open Go.TM.Tr
attribute [local irreducible] T.wp CV FWK
theorem check_less{x:TF}(h:checkT x=0){l:List Ev}(h1:l.length<=x.events.length)(h2:∀ e∈l,e∈x.events):checkT { x with events:=l }=0 :=
 check_events h (Nat.le_trans h1 (Jx h).2.2.2.2.2.2) fun e he=>Up.1 (Dd h e (h2 e he))
theorem check_add{x:TF}{e:Ev}(h:checkT (add x e)=0):checkT x=0:=by
 have:=check_less h (l:=x.events) (by show _<=(x.events++[e]).length;simp) fun c hc=>by show c∈x.events++[e];simp[hc]
 exact this
end
end Go.Y.Tre
section
namespace Go.TM
def pickL(f:Nat->Bool)(m:Nat):List Int:=((List.range m).filter f).map fun j:Nat=>(j:Int)
variable {f:Nat->Bool}{m:Nat}
theorem pick_succ(f:Nat->Bool)(m:Nat):pickL f (m+1)=pickL f m++(if f m then [(m:Int)] else []):=by
 unfold pickL;rw[List.range_succ,List.filter_append,List.map_append];congr 1;simp only[List.filter_cons,List.filter_nil];split<;>rfl
theorem pick_len(f:Nat->Bool)(m:Nat):(pickL f m).length<=m:=by
 unfold pickL;rw[List.length_map];exact Nat.le_trans (List.length_filter_le _ _) (by simp)
theorem Yk{v:Int}:v∈pickL f m↔∃ j:Nat,j<m/\f j=true/\v=(j:Int):=by
 unfold pickL;simp only[List.mem_map,List.mem_filter,List.mem_range];constructor
 ·rintro⟨j,⟨h1,h2⟩,rfl⟩;exact⟨j,h1,h2,rfl⟩
 ·rintro⟨j,h1,h2,rfl⟩;exact⟨j,⟨h1,h2⟩,rfl⟩
theorem pick_ok{t:GTab}{e:Int}(he:0<=e/\e<(t.eds.length:Int))(hm:m<=(t.items e).length):ListOk t e (pickL f m):=by
 refine⟨fun v hv=>?_,?_⟩
 ·obtain⟨j,h1,_,rfl⟩:=Yk.1 hv;exact⟨he.1,he.2,by omega,by omega⟩
 ·unfold pickL;rw[List.pairwise_map];exact(List.Pairwise.sublist List.filter_sublist List.pairwise_lt_range).imp fun h=>by omega
theorem pick_sub{g:Nat->Bool}(h:∀ j,j<m->f j=true->g j=true):∀ v∈pickL f m,v∈pickL g m:=by
 intro v hv;obtain⟨j,h1,h2,rfl⟩:=Yk.1 hv;exact Yk.2 ⟨j,h1,h j h1 h2,rfl⟩
namespace Tr
end Tr
end Go.TM
namespace Go.Y.Tre
open Go.TM.Tr
attribute [local irreducible] T.wp CV FWK
def heldB(x:TF)(k d:Int):Nat->Bool:=fun j=>decide (dateOn x k j d>=0)
theorem c3127{h:LH}(hk:Kinds h.get){f:TC}{x:TF}(hx:TreatyR h.get f x)(Z:0<=x.items/\x.items<=5){k d:Int}(J:Qu x k d=0){g:TabC}{t:GTab}(hr:TabR h.get g t){e:Int}(he:0<=e/\e<(t.eds.length:Int)) :
  Gr Tryz.prog 49 #[treatyV f x,.int .i64 k,.int .i64 d,tabV g,.int .i64 e] h fun r h'=>∃ p n c,r=.tuple #[.slice p n c,.bool true]/\Sl IntE 1 h'.get p n (pickL (heldB x k d) (min x.items.toNat (t.items e).length)):=by
 refine w3127 Qn ?_;refine t_gr (c2018 hk hx k d) ?_;intro r1 s w H;obtain⟨p1,n1,k1,rfl,s1,_⟩:=H.form;rw[J];rw[protA,if_pos J]at s1;have D:n1=x.items.toNat:=s1.1.trans (prot_len x k d);have q:=hr.le w.1;obtain⟨l,a0,v,V,q0,m,c0,N,A⟩:=q.eds.at (i:=e.toNat) (by have:=q.eds.1;omega);have X:0<=e/\e<(g.n0:Int):=by have:=q.eds.1;omega
 have G:m=(t.items e).length:=by
  unfold GTab.items;rw[List.getD_eq_getElem?_getD,v];exact A.1
 rw[<- D,<- G];have hb1:=s1.2.1;have W:=A.2.1;have E:=A.1;have F:=s1.1;refine gZ ?_;refine J7 (fun L vs h'=>s.le h'/\∃ (i:Nat) (p:Option Addr) (n c:Nat),vs=[.slice p n c,.int .i64 i]/\i<=min n1 m/\L=min n1 m-i/\Growing IntEnc 3 1 s.get h'.get p n c (pickL (heldB x k d) i))
  (fun vs h'=>s.le h'/\∃ (p:Option Addr) (n c:Nat),vs=[.slice p n c,.int .i64 (min n1 m:Nat)]/\Growing IntEnc 3 1 s.get h'.get p n c (pickL (heldB x k d) (min n1 m)))
  ⟨LH.le_refl _,0,none,0,0,rfl,Nat.zero_le _,rfl,Growing.nil⟩ ?_ ?_
 ·rintro Y L vs h2 K ⟨b,i,p,n,c,rfl,hi,rfl,u⟩;have fin:¬ i<min n1 m->s.le h2/\∃ (z:Option Addr) (M y:Nat),[Value.slice p n c,.int .i64 (i:Int)]=[.slice z M y,.int .i64 (min n1 m:Nat)]/\Growing IntEnc 3 1 s.get h2.get z M y (pickL (heldB x k d) (min n1 m)):=fun hn=>by
   have:i=min n1 m:=by omega
   exact⟨b,p,n,c,by rw[this],by rw[<- this];exact u⟩
  have O:=Qc b.1 N;refine yJ (fun P=>?_) (fun P=>?_)
  ·refine yJ (fun Q=>?_) (fun Q=>?_)
   ·obtain⟨a,ha,R⟩:=bool_at s1 (prot_at (x:=x) (k:=k) (d:=d) (j:=i) (by omega));have S:=Qc b.1 R;have e0:0<=(i:Int)/\(i:Int)<(n1:Int):=by omega
    have o:=pick_succ (heldB x k d) i;have C:=pick_len (heldB x k d) i;have j0:=u.count IntEnc.len (by omega);refine yI (fun b1=>?_) (fun b1=>?_)
    ·rw[show heldB x k d i=true from b1,if_pos rfl]at o;refine Ub u b (by omega) fun z y h3 I U=>?_;refine gZ ?_;refine Qa (K (min n1 m-(i+1)) _ _ (by omega) ⟨I,i+1,z,n+1,y,?_,by omega,rfl,by rw[o];exact U⟩);rw[Qj (by omega) (by omega)];rfl
    ·rw[show heldB x k d i=false from b1,if_neg (by simp),List.append_nil]at o;refine Qa (K (min n1 m-(i+1)) _ _ (by omega) ⟨b,i+1,p,n,c,?_,by omega,rfl,by rw[o];exact u⟩);rw[Qj (by omega) (by omega)];rfl
   ·exact gH (fin (by omega))
  ·exact gH (fin (by omega))
 rintro vs h2 ⟨b,p,n,c,rfl,u⟩;have C:=pick_len (heldB x k d) (min n1 m);refine yT ?_;have B:((n1:Int)==x.items)=true:=by simp;omega
 rw[B];refine gZ ?_;exact Qe ⟨LH.le_trans w b,p,n,c,rfl,u.sl IntEnc.len (by omega) IntEnc.e (by omega)⟩
end Go.Y.Tre
end
section
namespace Go.Y
set_option linter.unusedVariables false
variable {X:XP} {h:LH} {A:Value->LH->Prop}
variable {a b c d e f g i j k l m:Int}{n o p q r s t u v w x y z:Nat}{B C D E F G H I J K L M:Option Addr}
theorem w3178:FX X 72 #[.agg #[.slice B n o,.slice C p q,.slice D r s],a,.slice E t u,.slice F v w] h A (.new 137 #[.slice B n o,.slice C p q,.slice D r s] fun y=>.new 3 #[a] fun z=>.new 30 #[.slice F v w] fun G=>.sem false (Instr.makeSlice 30 (.int .i64 (↑t:Int)) (.int .i64 (↑t:Int))) fun d=>.unS d fun g b e=>.new 30 #[.slice none 0 0] fun f=>.store (Addr.add ⟨f,0,none⟩ 0) (.slice g b e) (.new 210 #[.int .u64 0,.int .u32 0] fun j=>.loop [.int .i64 0] (fun c=>.pi c fun b c=>.unNil c (bif decide (b<(↑t:Int)) then .need (0<=b/\b<(↑t:Int)) (.someA E fun g=>.li (g.add (b.toNat*1)) fun x=>.new 3 #[.int .i64 0] fun l=>.new 3 #[.int .i64 0] fun m=>.store (Addr.add ⟨l,0,none⟩ 0) (.int .i64 b) (.store (Addr.add ⟨m,0,none⟩ 0) (.int .i64 x) (.cl 116 #[.pointer (some ⟨j,0,none⟩),.int .i64 1] fun d=>.unTup d fun i=>.unNil i (.spawn (.func (Fn.func 117) #[] #[.pointer (some ⟨j,0,none⟩),.pointer (some ⟨G,0,none⟩),.pointer (some ⟨f,0,none⟩),.pointer (some ⟨l,0,none⟩),.pointer (some ⟨y,0,none⟩),.pointer (some ⟨z,0,none⟩),.pointer (some ⟨m,0,none⟩)]) #[] (.ag [.int .i64 (wrap .i64 (b+1))]))))) else .bk [b])) (fun c=>.pi c fun b c=>.unNil c (.cl 120 #[.pointer (some ⟨j,0,none⟩)] fun d=>.unTup d fun i=>.unNil i (.loadS ⟨f,0,none⟩ fun k b e=>bif (↑b:Int)==0 then .rt (.int .i64 0) else .loadS ⟨f,0,none⟩ fun k b e=>.cI 121 #[.slice k b e] fun b=>.rt (.int .i64 b)))) (fun c=>.pi c fun b c=>.unNil c (.rt (.int .i64 0))) fun H I=>.fail)):=fk [] [⟨0,[(18,.int .i64)],[],[],[],[]⟩] [] Tryz.f72
theorem w3177:FX X 70 #[.agg #[.slice B n o,.slice C p q,.slice D r s],a,.slice E t u] h A (.sem false (Instr.buildSlice 248 1 #[(0,.slice E t u)]) fun c=>.unS c fun d b e=>.cT 111 #[.agg #[.slice B n o,.slice C p q,.slice D r s],a,.slice d b e] fun c f=>.unAgg c fun g=>.popS g fun d b e i=>.popS i fun d b e j=>.popS j fun d b e k=>.unNil k (.unCons f fun c f=>.ui c fun b=>.unNil f (.rt (.int .i64 b)))):=fk [3,7] [] [] Tryz.f70
theorem w3203:FX X 121 #[.slice B n o] h A (.blk (bif decide ((↑n:Int)<1) then .fail else .ag []) (fun a=>.unNil a (.need ((0:Int)<=0/\0<(↑n:Int)) (.someA B fun d=>.li (d.add 0) fun b=>.loop [b,.int .i64 1] (fun a=>.pi a fun b a=>.pi a fun c a=>.unNil a (bif decide (c<(↑n:Int)) then .need (0<=c/\c<(↑n:Int)) (.someA B fun d=>.li (d.add (c.toNat*1)) fun e=>.ag [.int .i64 (if e>b then e else b),.int .i64 (wrap .i64 (c+1))]) else .bk [b,c])) (fun a=>.pi a fun b a=>.pi a fun c a=>.unNil a (.rt (.int .i64 b))) (fun a=>.pi a fun b a=>.pi a fun b a=>.unNil a (.rt (.int .i64 0))) fun f g=>.fail))) (fun a=>.unNil a (.rt (.int .i64 0))) fun f g=>.fail):=fk [] [⟨0,[(3,.int .i64),(4,.int .i64)],[],[],[],[]⟩] [⟨3,[],[],[],[],[]⟩] Tryz.f121
end Go.Y
end
namespace Go.TM
section
def holeK(o:Obj):Option Nat->Prop
 | none=>∃ i,isHole o i
 | some i=>isHole o i
open Classical in
def holdsP(cs:Nat->Cells)(j:Nat)(k:Key):Option Bool:=(cs j k.1).bind fun x=>if holeK x.2 k.2 then none else some x.1
variable {j r i:Nat}{b:Bool}{o:Obj}
theorem Jb{cs:Nat->Cells}{q:Option Nat}{x:Bool×Obj}(h:cs j r=some x)(a:¬ holeK x.2 q):holdsP cs j (r,q)=some x.1:=by
 unfold holdsP;simp only[h,Option.bind_some,if_neg a]
theorem Zd{cs:Nat->Cells}{k:Key}(h:holdsP cs j k=some b):∃ x,cs j k.1=some x/\¬ holeK x.2 k.2/\x.1=b:=by
 unfold holdsP at h;obtain⟨x,c,h1⟩:=Option.bind_eq_some_iff.1 h;by_cases a:holeK x.2 k.2
 ·rw[if_pos a]at h1;cases h1
 ·rw[if_neg a]at h1;exact⟨x,c,a,Option.some.inj h1⟩
theorem Z8(h:∀ i,¬ isHole o i):∀ q,¬ holeK o q
 | none=>fun ⟨i,a⟩=>h i a
 | some i=>h i
structure MemW(sy:Sy)(n0:Nat)(w0:World)(C:Nat)(cs:Nat->Cells)(ng:Nat)(gone:Nat->Prop)(w:World)(t:Trace):Prop where
 fits:∀ j,Fits (cs j) w
 part:∀ j b o,cs j C=some (b,o)->b=true/\∃ c e,o=.pending c e
 whole:∀ j r b o,r≠C->cs j r=some (b,o)->∀ i,¬ isHole o i
 ti:TI sy t w.heap.size ng (holdsP cs) gone
 off:∀ r,sy.sp r->∀ j,cs j r=none
 cl:C<w.heap.size
 out:∀ j,ng<=j->∀ r,cs j r=none
 pos:0<ng
 base:∀ r,r<n0->w.heap[r]?=w0.heap[r]?
 low:∀ j r o,cs j r=some (true,o)->n0<=r
 size:n0<=w.heap.size
 os:w.os=w0.os
 tape:w.tape=w0.tape
 output:w.output=w0.output
variable {sy:Sy} {n0:Nat} {w0:World} {C:Nat} {cs:Nat->Cells} {ng:Nat} {gone:Nat->Prop} {w:World} {t:Trace}
theorem MemW.at(m:MemW sy n0 w0 C cs ng gone w t)(d:Nat):MemW sy n0 w0 C cs ng gone (w.at d) t :=
 ⟨m.fits,m.part,m.whole,m.ti,m.off,m.cl,m.out,m.pos,m.base,m.low,m.size,m.os,m.tape,m.output⟩
theorem MemW.apart(m:MemW sy n0 w0 C cs ng gone w t)(a:i≠j)(hr:r≠C)(h:cs i r=some (true,o)):cs j r=none:=by
 have h1:=m.ti.excl i j (r,none) a (Jb h (Z8 (m.whole i r _ _ hr h) _));cases b:cs j r with
 | none=>rfl
 | some x=>rw[Jb b (Z8 (m.whole j r x.1 x.2 hr b) _)]at h1;cases h1
theorem MemW.cells(m:MemW sy n0 w0 C cs ng gone w t)(a:i≠j){g:Bool}{c d:Array Value}{e f:TypeId}(h:cs i C=some (b,.pending c e))(h':cs j C=some (g,.pending d f))(k:Nat) :
  isHole (.pending c e) k\/isHole (.pending d f) k:=by
 by_cases h1:isHole (.pending c e) k
 ·exact .inl h1
 ·right;apply Classical.byContradiction;intro h2;have hb:b=true:=(m.part i _ _ h).1;subst hb;have:=m.ti.excl i j (C,some k) a (Jb (q:=some k) h h1);rw[Jb (q:=some k) h' h2]at this;cases this
theorem MemW.step(m:MemW sy n0 w0 C cs ng gone w t){j:Nat}(R:j<ng)(K:¬ gone j){h':Cells}{w':World}{es:Array Event}(fn:FuncId)(pos:String)
 (tr:Tr (cs j) w h' w')(J:∀ e∈es,EvOk (cs j) w.heap.size w'.heap.size e) :
  MemW sy n0 w0 C (fun i=>if i=j then h' else cs i) ng gone w' (t++MemOp.ofEvents j fn pos es)/\∀ r,sy.sp r->w'.heap[r]?=w.heap[r]?:=by
 have hold:holdsP (fun i=>if i=j then h' else cs i)=fun i=>if i=j then holdsP (fun _=>h') j else holdsP cs i:=by
  funext i k;by_cases e:i=j<;>simp[holdsP,e]
 have A:∀ r,sy.sp r->h' r=none:=by
  intro r hr;cases l:h' r with
  | none=>rfl
  | some x =>
   rcases tr.new r x l with⟨y,n,_,_⟩|⟨g,_,_⟩
   ·rw[m.off r hr j]at n;cases n
   ·exact absurd (m.ti.spl r hr) (Nat.not_lt.2 g)
 have M:∀ r,sy.sp r->w'.heap[r]?=w.heap[r]?:=by
  intro r hr;refine tr.other r (m.ti.spl r hr) ?_;rintro⟨o,p⟩;rw[m.off r hr j]at p;cases p
 refine⟨⟨?_,?_,?_,?_,?_,Nat.lt_of_lt_of_le m.cl tr.size,?_,m.pos,?_,?_,Nat.le_trans m.size tr.size,tr.os.trans m.os,tr.tape.trans m.tape,tr.output.trans m.output⟩,M⟩
 ·intro i;by_cases e:i=j
  ·simp only[e,if_true];exact tr.fits
  ·simp only[e,if_false];intro r b o hr;obtain⟨D,h1,h2⟩:=m.fits i r b o hr;by_cases z:(cs j).own r
   ·obtain⟨oj,p⟩:=z;by_cases Q:r=C
    ·subst Q;obtain⟨_,V,X,rfl⟩:=m.part j _ _ p;obtain⟨_,ci,Z,rfl⟩:=m.part i _ _ hr;obtain⟨P,rfl,N,I⟩:=h2;obtain⟨U,h3,f⟩:=tr.part r _ _ p h1;obtain⟨c1,c2,G,f1,W,rfl,L,Y⟩:=f ⟨_,Kk V X⟩;cases W;refine⟨_,h3,c2,rfl,L.trans N,fun k v hv F=>?_⟩;rcases m.cells (fun s=>e s) hr p k with d|d
     ·have:=d v hv;rw[F]at this;cases this
     ·rw[Y k d];exact I k v hv F
    ·rw[m.apart (fun s=>e s.symm) Q p]at hr;cases hr
   ·exact⟨D,by rw[tr.other r (Fits.lt (m.fits i) hr) z];exact h1,h2⟩
 ·intro i b o hr;by_cases e:i=j
  ·simp only[e,if_true]at hr;rcases tr.new C _ hr with⟨⟨O,S⟩,n,G,d⟩|⟨g,_,_⟩
   ·obtain⟨hb,c,el,rfl⟩:=m.part j _ _ n;simp only at G d;refine⟨by rw[<- G];exact hb,?_⟩;have:=(d c.size).1 (Kk c el);cases o with
    | pending P s=>exact⟨P,s,rfl⟩
    | _=>exact this.elim
   ·exact absurd m.cl (Nat.not_lt.2 g)
  ·simp only[e,if_false]at hr;exact m.part i b o hr
 ·intro i r b o B hr;by_cases e:i=j
  ·simp only[e,if_true]at hr;rcases tr.new r _ hr with⟨⟨O,S⟩,n,_,d⟩|⟨_,_,d⟩
   ·exact fun k f=>m.whole j r O S B n k ((d k).2 f)
   ·exact d
  ·simp only[e,if_false]at hr;exact m.whole i r b o B hr
 ·rw[hold];refine m.ti.step R K tr.size ?_ ?_
  ·intro e he;have h:=J e he;unfold EvOk at h;split at h
   ·rename_i a u;refine⟨fun mk hm=>(by rw[u]at hm;cases hm),fun k f=>?_⟩;rw[u]at f;cases f;rcases h.2 with⟨h1,h2⟩|⟨x,l,hw,d⟩
    ·exact⟨h2,.inl h1⟩
    ·exact⟨Nat.lt_of_lt_of_le (Fits.lt (m.fits j) l) tr.size,.inr ⟨x.1,Jb l d,hw⟩⟩
   ·rename_i r u;refine⟨fun mk hm=>(by rw[u]at hm;cases hm),fun k f=>?_⟩;rw[u]at f;cases f;rcases h with⟨h1,h2⟩|⟨x,l,hw,d⟩
    ·exact⟨h2,.inl h1⟩
    ·exact⟨Nat.lt_of_lt_of_le (Fits.lt (m.fits j) l) tr.size,.inr ⟨x.1,Jb l (Z8 d _),hw⟩⟩
   ·rename_i mk u;refine⟨fun mk' hm=>(by rw[u]at hm;cases hm;exact h),fun k f=>?_⟩;rw[u]at f;cases f
   ·exact h.elim
  ·rintro⟨r,q⟩ b hb;obtain⟨x,l,F,H⟩:=Zd hb;rcases tr.new r x l with⟨y,n,e,d⟩|⟨g,_,_⟩
   ·left;rw[<- H,<- e];refine Jb n fun f=>F ?_;cases q with
    | none=>obtain⟨i,E⟩:=f;exact⟨i,(d i).1 E⟩
    | some i=>exact(d i).1 f
   ·exact .inr ⟨g,Fits.lt tr.fits l⟩
 ·intro r hr i;by_cases e:i=j
  ·simp only[e,if_true];exact A r hr
  ·simp only[e,if_false];exact m.off r hr i
 ·intro i E r;have:i≠j:=fun e=>by subst e;exact absurd R (Nat.not_lt.2 E)
  simp only[this,if_false];exact m.out i E r
 ·intro r hr;rw[tr.other r (Nat.lt_of_lt_of_le hr m.size) ?_]
  ·exact m.base r hr
  ·rintro⟨o,p⟩;exact absurd (m.low j r o p) (Nat.not_le.2 hr)
 ·intro i r o hr;by_cases e:i=j
  ·simp only[e,if_true]at hr;rcases tr.new r _ hr with⟨⟨b,y⟩,n,s,_⟩|⟨g,_⟩
   ·simp only at s;subst s;exact m.low j r y n
   ·exact Nat.le_trans m.size g
  ·simp only[e,if_false]at hr;exact m.low i r o hr
end
section
variable {sy:Sy} {t u:Trace} {n ng:Nat} {hold hold':Nat->Key->Option Bool} {gone gone':Nat->Prop}
def Sy.open_(sy:Sy)(r:Nat):Sy:=⟨fun r'=>sy.sp r'\/r'=r,fun g r'=>sy.use g r'\/(g=0/\r'=r),sy.dp⟩
variable {g p:Nat}
theorem TI.special(h:TI sy t n ng hold gone){r:Nat}(hr:∀ q,hold 0 (r,q)=some true)(c:∀ g k b,hold' g k=some b->hold g k=some b/\k.1≠r):TI (sy.open_ r) t n ng hold' gone:=by
 have v:¬ sy.sp r:=(h.held 0 (r,none) true (hr none)).2;refine⟨h.hears,h.who,?_,h.lt,?_,?_,fun g k hb=>h.own g k (c g k _ hb).1,fun g k b hb=>h.shared g k b (c g k _ hb).1,?_,?_,h.said,?_,h.handed,h.norel⟩
 ·rintro a (h1|rfl)
  ·exact h.spl a h1
  ·exact(h.held 0 (a,none) true (hr none)).1
 ·intro g k b hb;obtain⟨h1,h2⟩:=c g k b hb;exact⟨(h.held g k b h1).1,fun l=>l.elim (h.held g k b h1).2 h2⟩
 ·intro g g' k m hb;cases x:hold' g' k with
  | none=>rfl
  | some b=>have:=(c g' k b x).1;rw[h.excl g g' k m (c g k _ hb).1]at this;cases this
 ·intro i j k b f l;exact h.norace i j k b f fun h'=>l (.inl h')
 ·rintro i j ⟨a,q⟩ b f l d o s hw u;by_cases h1:sy.sp a
  ·exact h.spc i j (a,q) b f h1 d o s hw u
  ·exact h.norace i j (a,q) b f h1 d o s hw
 ·rintro g a (h1|⟨rfl,rfl⟩)
  ·exact⟨.inl (h.acc g a h1).1,(h.acc g a h1).2⟩
  ·refine⟨.inr rfl,?_⟩;rintro p ⟨y,q⟩ b e w _;cases e;exact h.own 0 _ (hr q) p b w
structure SyncOp(sy:Sy)(g:Nat)(op:MemOp):Prop where
 who:op.g=g
 touch:∀ x,op.act.touch?=some x->x.kind≠.plain/\(x.kind=.said->g=0)/\∀ k,key? x.loc=some k->sy.use g k.1
 norel:∀ a,op.act≠.mark (.release a)
def Sy.deafen(sy:Sy)(g d:Nat):Sy:=⟨sy.sp,sy.use,fun i=>if i=g then d else sy.dp i⟩
theorem SyncOp.new(hu:∀ op∈u,SyncOp sy g op){k:Key}{b:Bool}(i:Touches (t++u) p k b)(h:¬ p<t.size):(∃ op,(t++u)[p]?=some op/\op.g=g)/\sy.use g k.1/\¬ Plain (t++u) p:=by
 obtain⟨op,x,h1,h2,h3,l⟩:=i;rcases getElem?_append_cases h1 with⟨f,_⟩|⟨_,a⟩
 ·exact absurd f h
 ·refine⟨⟨op,h1,(hu op a).who⟩,((hu op a).touch x h2).2.2 k h3,?_⟩;rintro⟨j,m,c,d,e⟩;rw[h1]at c;cases c;rw[h2]at d;cases d;exact((hu op a).touch x h2).1 e
theorem TI.sync(h:TI sy t n ng hold gone)(D:g<ng)(E:¬ gone g)(hu:∀ op∈u,SyncOp sy g op):TI (sy.deafen g (Deaf (t++u) g)) (t++u) n ng hold gone:=by
 have old:∀ p k b,¬ sy.sp k.1->Touches (t++u) p k b->Touches t p k b:=by
  intro p k b y m;rcases Nat.lt_or_ge p t.size with d|d
  ·exact m.old d
  ·exact absurd (h.acc g k.1 (SyncOp.new hu m (Nat.not_lt.2 d)).2.1).1 y
 refine⟨?_,?_,h.spl,?_,h.held,h.excl,fun i k hb p b m=>(h.own i k hb p b (old p k b (h.held i k _ hb).2 m)).append,fun i k b hb p m=>(h.shared i k b hb p (old p k true (h.held i k _ hb).2 m)).append,?_,?_,?_,?_,?_,fun op c a=>(Array.mem_append.1 c).elim (fun c=>h.norel op c a) fun c=>(hu op c).norel a⟩
 ·intro i o;show _=if i=g then _ else _
  by_cases e:i=g
  ·rw[if_pos e,e]
  ·rw[if_neg e,Deaf_other t (fun J=>e J.symm) _ (fun op c=>(hu op c).who)];exact h.hears i o
 ·intro op c;rcases Array.mem_append.1 c with c|c
  ·exact h.who op c
  ·rw[(hu op c).who];exact D
 ·intro p k b m;rcases Nat.lt_or_ge p t.size with d|d
  ·exact h.lt p k b (m.old d)
  ·exact h.spl _ (h.acc g k.1 (SyncOp.new hu m (Nat.not_lt.2 d)).2.1).1
 ·intro i j k b B y s o C hw;exact(h.norace i j k b B y s (old i k b y o) (old j k B y C) hw).append
 ·intro i j k b B y s o C hw d;rcases Nat.lt_or_ge j t.size with l|q
  ·have f:=Nat.lt_trans s l;exact(h.spc i j k b B y s (o.old f) (C.old l) hw (d.imp (·.old f) (·.old l))).append
  ·obtain⟨⟨z,K,H⟩,A,F⟩:=SyncOp.new hu C (Nat.not_lt.2 q);rcases d with d|d
   ·rcases Nat.lt_or_ge i t.size with f|f
    ·have v:=(h.acc g k.1 A).2 i k b rfl (o.old f) (d.old f);rw[<- H]at v;exact v.new K q
    ·exact absurd d (SyncOp.new hu o (Nat.not_lt.2 f)).2.2
   ·exact absurd d F
 ·intro p op x d I v;rcases getElem?_append_cases d with⟨_,w⟩|⟨_,c⟩
  ·exact h.said p op x w I v
  ·rw[(hu op c).who];exact((hu op c).touch x I).2.1 v
 ·intro i r hr;obtain⟨h1,h2⟩:=h.acc i r hr;refine⟨h1,fun p k b v m d=>?_⟩;rcases Nat.lt_or_ge p t.size with l|q
  ·exact(h2 p k b v (m.old l) (d.old l)).append
  ·exact absurd d (SyncOp.new hu m (Nat.not_lt.2 q)).2.2
 ·intro i o p op d c hc;rcases getElem?_append_cases d with⟨G,w⟩|⟨_,hm⟩
  ·exact(h.handed i o p op w c ((D5 G).1 hc)).append
  ·rw[<- c,(hu op hm).who]at o;exact absurd o E
structure Done(t:Trace)(i:Nat)(a:Addr)(ks:Key->Prop)(p:Nat):Prop where
 act:t.act? p=some (.mark (.releaseMerge a))
 g:t.g? p=some i
 heard:t.heard p
 keys:∀ k,ks k->∀ q b,Touches t q k b->HB t q p
 mine:∀ q,t.g? q=some i->t.counts q->HB t q p
theorem act?_old'{t u:Trace}{x:MemAct}(h:t.act? p=some x):p<t.size/\(t++u).act? p=some x:=by
 have a:=lt_of_act? h;exact⟨a,by simp only[Trace.act?,getElem?_append_old a];exact h⟩
theorem TI.join(h:TI sy t n ng hold gone){a:Addr}{ks:Nat->Key->Prop}{D:Nat->Prop}(N:∀ i,D i->i<ng/\∃ p,Done t i a (ks i) p)
 (h0:¬ gone 0)(Z:Deaf t 0=0)(M:0<ng){op:MemOp}(s:op.g=0/\op.act=.mark (.acquire a))
 (hg:∀ g,gone g->gone' g)(O:∀ g,gone' g->gone g\/D g)(c:∀ g k b,hold' g k=some b->hold g k=some b\/(g=0/\∃ i,D i/\ks i k/\hold i k=some true))
 (B:∀ i,D i->∀ k,ks i k->∀ g,g≠0->hold' g k=none) :
  TI sy (t++#[op]) n ng hold' gone':=by
 have un:∀ o∈(#[op]:Trace),o.act.touch?=none:=by
  intro o f;simp only[List.mem_toArray,List.mem_cons,List.not_mem_nil,or_false]at f;rw[f,s.2];rfl
 have hz:(t++#[op])[t.size]?=some op:=by simp
 have S:∀ p,t.act? p≠some (.mark (.release a)):=by
  intro p w;obtain⟨z,h1,h2⟩:=Option.map_eq_some_iff.1 w;exact h.norel z (mem_of_getElem? h1) a h2
 have m:∀ i,D i->∀ q p,Done t i a (ks i) p->(q=p\/HB t q p)->Knows (t++#[op]) q 0:=by
  intro i v q p d W;have e:HB (t++#[op]) p t.size:=by
   obtain⟨w,h1⟩:=act?_old' (u:=#[op]) d.act;refine .single (.inr ⟨.marked (a:=a) w (.inr h1) (by simp[Trace.act?,s.2]) ?_,(heard_old w).2 d.heard,⟨0,by simp[Trace.g?,s.1],by rw[deaf_old (Nat.le_refl _)];exact Z⟩⟩);intro k _ Q A;have:t.act? k=some (.mark (.release a)):=by
    simp only[Trace.act?,getElem?_append_old Q]at A ⊢;exact A
   exact S k this
  refine⟨t.size,op,hz,s.1,.inr ?_⟩;rcases W with rfl|W
  ·exact e
  ·exact .trans W.append e
 refine⟨?_,?_,h.spl,fun p k b G=>h.lt p k b (G.untouched un),?_,?_,?_,?_,?_,?_,?_,?_,?_,fun o f Y=>(Array.mem_append.1 f).elim (fun f=>h.norel o f Y) fun f=>by
  simp only[List.mem_toArray,List.mem_cons,List.not_mem_nil,or_false]at f;rw[f,s.2];exact nofun⟩
 ·intro g C;have e:Deaf (t++#[op]) g=Deaf t g:=by rw[Deaf_push];unfold deafStep;rw[s.2]
  rw[e];exact h.hears g fun e=>C (hg g e)
 ·intro o f;rcases Array.mem_append.1 f with f|f
  ·exact h.who o f
  ·simp only[List.mem_toArray,List.mem_cons,List.not_mem_nil,or_false]at f;rw[f,s.1];exact M
 ·intro g k b hb;rcases c g k b hb with hb|⟨_,i,_,_,hb⟩
  ·exact h.held g k b hb
  ·exact h.held i k true hb
 ·intro g g' k F hb;cases H:hold' g' k with
  | none=>rfl
  | some b =>
   exfalso;rcases c g k true hb with h1|⟨rfl,i,v,y,h1⟩
   ·rcases c g' k b H with h2|⟨rfl,i,v,y,h2⟩
    ·rw[h.excl g g' k F h1]at h2;cases h2
    ·rw[B i v k y g F]at hb;cases hb
   ·rw[B i v k y g' (Ne.symm F)]at H;cases H
 ·intro g k hb p b G;have l:=G.untouched un;rcases c g k true hb with h1|⟨rfl,i,v,y,_⟩
  ·exact(h.own g k h1 p b l).append
  ·obtain⟨_,q,d⟩:=N i v;exact m i v p q d (.inr (d.keys k y p b l))
 ·intro g k b hb p G;have l:=G.untouched un;rcases c g k b hb with h1|⟨rfl,i,v,y,_⟩
  ·exact(h.shared g k b h1 p l).append
  ·obtain⟨_,q,d⟩:=N i v;exact m i v p q d (.inr (d.keys k y p true l))
 ·intro i j k b L X E v P hw;exact(h.norace i j k b L X E (v.untouched un) (P.untouched un) hw).append
 ·intro i j k b L X E v P hw V;have J:=v.untouched un;have K:=P.untouched un;exact(h.spc i j k b L X E J K hw (V.imp (·.old J.lt) (·.old K.lt))).append
 ·intro p o x w H y;rcases getElem?_append_cases w with⟨_,U⟩|⟨_,f⟩
  ·exact h.said p o x U H y
  ·rw[un o f]at H;cases H
 ·intro g r hr;obtain⟨h1,h2⟩:=h.acc g r hr;refine⟨h1,fun p k b y G w=>?_⟩;have l:=G.untouched un;exact(h2 p k b y l (w.old l.lt)).append
 ·intro g C p o w f hc;obtain⟨R,I⟩:=Zy un hc;rw[getElem?_append_old R]at w;rcases O g C with h1|h1
  ·exact(h.handed g h1 p o w f I).append
  ·obtain⟨_,q,d⟩:=N g h1;exact m g h1 p q d (.inr (d.mine p (by simp[Trace.g?,w,f]) I))
end
end Go.TM
