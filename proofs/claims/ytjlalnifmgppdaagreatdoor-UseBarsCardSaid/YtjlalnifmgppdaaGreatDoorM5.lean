/- Contracts and laws for the proof, joined by a program. No condition. -/
import Derived.Test.YtjlalnifmgppdaaGreatDoorM4
set_option linter.all false
noncomputable section
open Go Go.Conc Go.TM Go.Proofs
set_option maxRecDepth 100000
open Go.IntKind (wrap)
namespace Go.Y
section
attribute [local irreducible] T.wp CV FWK
theorem c3322{h:LH}(f:DFileC)(y:DFile){p:Option Addr}{n c:Nat}{l:List DClaim}(hl:Sl DClaimE 3 h.get p n l)(hb5:y.items<=5)(hb0:0<=y.items):FW X0 Tryz.prog 72 #[dfV f y,.slice p n c] h fun r h'=>h=h'/\∃ g:Int,r=.int .i64 g/\(g=0->l.length<=4/\∀ x∈l,DayOk x.from_/\DayOk x.made/\RiseOk y.items x.items):=by
 refine w3322 _ _ _ _ _ _ _ _ _ _ _ _ _ _ _ _ _ _ _ _ _ _ _ _ X0_ok ?_;unfold n3322;have hn:=hl.1;have hb:=hl.2.1;have ew:wrap .i64 (y.items-1)=y.items-1:=wrap_id (by omega) (by omega);refine t_if (fun e=>?_) (fun e=>?_)
 ·exact t_ret ⟨rfl,2,rfl,fun e=>by cases e⟩
 refine t_loop (fun mm vs h'=>h=h'/\∃ i:Nat,vs=[.int .i64 0,.int .i64 i]/\i<=n/\mm=n-i/\∀ (j:Nat) x,j<i->l[j]?=some x->DayOk x.from_/\DayOk x.made/\RiseOk y.items x.items) ⟨rfl,0,rfl,Nat.zero_le _,rfl,fun j x hj=>absurd hj (Nat.not_lt_zero _)⟩ ?_;rintro Y mm vs _ hY ⟨rfl,i,rfl,hi,rfl,hall⟩;refine yJ (fun e1=>?_) (fun e1=>?_)
 ·obtain⟨x,a,hx,ha,e2,e3,q,k,qc,e4,hs⟩:=hl.at (i:=i) (by omega);have hk:=hs.1;have hkb:=hs.2.1;refine t_blk (fun vs h'=>vs=[.int .i64 0]/\h=h'/\DayOk x.from_/\DayOk x.made) ?_ ?_
  ·refine gZ ?_;refine t_pu (c3338 _) ?_;refine yI (fun _=>?_) (fun b1=>?_)
   ·refine gI ?_;refine gZ ?_;exact t_ret ⟨rfl,1,rfl,fun e=>by cases e⟩
   refine gZ ?_;refine t_pu (c3338 _) ?_;refine yI (fun _=>?_) (fun b2=>?_)
   ·refine gI ?_;refine gZ ?_;exact t_ret ⟨rfl,1,rfl,fun e=>by cases e⟩
   exact t_again ⟨rfl,rfl,dayOk_of (by simpa using b1),dayOk_of (by simpa using b2)⟩
  rintro vs _ ⟨rfl,rfl,ok1,ok2⟩;refine gZ ?_;refine t_loopB (fun mm vs h'=>h=h'/\∃ j:Nat,vs=[.int .i64 0,.int .i64 j]/\j<=k/\mm=k-j/\∀ (t:Nat) v,t<j->x.items[t]?=some v->(0<=v/\v<=y.items-1)/\∀ u,0<t->x.items[t-1]?=some u->u<v)
   (fun vs h'=>h=h'/\∃ j:Nat,vs=[.int .i64 0,.int .i64 j]/\RiseOk y.items x.items) ⟨rfl,0,rfl,Nat.zero_le _,rfl,fun j x hj=>absurd hj (Nat.not_lt_zero _)⟩ ?_ ?_
  ·rintro Z mm vs _ hZ ⟨rfl,j,rfl,hj,rfl,hrise⟩;refine yJ (fun g1=>?_) (fun g1=>?_)
   ·obtain⟨v,a',hv,ha',e5⟩:=hs.at (i:=j) (by omega);unfold IntE at e5;have next:((0<=v/\v<=y.items-1)/\∀ u,0<j->x.items[j-1]?=some u->u<v)->Z [.int .i64 0,.int .i64 (wrap .i64 ((j:Int)+1))] h:=by
     intro hok;refine hZ (k-(j+1)) _ _ (by omega) ⟨rfl,j+1,?_,by omega,rfl,fun t w ht hw=>?_⟩
     ·rw[wrap_id (by omega) (by omega)];rfl
     ·by_cases e:t=j
      ·subst e;rw[hv]at hw;cases hw;exact hok
      ·exact hrise t w (by omega) hw
    refine gZ ?_;rw[ew];refine t_pu (c49 _ _ _) ?_;refine yI (fun _=>?_) (fun b1=>?_)
    ·refine gI ?_;refine gZ ?_;exact t_ret ⟨rfl,6,rfl,fun e=>by cases e⟩
    have hv0:0<=v/\v<=y.items-1:=by
     unfold isIn at b1;simpa using b1
    refine t_if (fun g2=>?_) (fun g2=>?_)
    ·obtain⟨u,a2,hu,ha2,e6⟩:=hs.at (i:=j-1) (by omega);unfold IntE at e6;rw[ha']at ha2;cases ha2;have ewj:wrap .i64 ((j:Int)-1)=((j-1:Nat):Int):=by rw[wrap_id (by omega) (by omega)];omega
     rw[ewj];have hin:0<=((j-1:Nat):Int)/\((j-1:Nat):Int)<(k:Int):=by omega
     refine yJ (fun _=>?_) (fun g3=>?_)
     ·refine gI ?_;refine gZ ?_;exact t_ret ⟨rfl,7,rfl,fun e=>by cases e⟩
     ·refine t_again (next ⟨hv0,fun u' _ hu'=>?_⟩);rw[hu]at hu';cases hu';omega
    ·refine gZ ?_;exact t_again (next ⟨hv0,fun u' h0 _=>by omega⟩)
   ·refine gH ⟨rfl,j,rfl,fun t v hv=>hrise t v ?_ hv⟩;have:=(List.getElem?_eq_some_iff.1 hv).1;omega
  ·rintro vs _ ⟨rfl,j,rfl,hrise⟩;refine gZ ?_;refine t_again (hY (n-(i+1)) _ _ (by omega) ⟨rfl,i+1,?_,by omega,rfl,fun j z hj hz=>?_⟩)
   ·rw[wrap_id (by omega) (by omega)];rfl
   ·by_cases e:j=i
    ·subst e;rw[hx]at hz;cases hz;exact⟨ok1,ok2,hrise⟩
    ·exact hall j z (by omega) hz
 ·refine gH ?_;refine gZ ?_;refine t_ret ⟨rfl,0,rfl,fun _=>⟨by omega,fun x hx=>?_⟩⟩;obtain⟨j,hj⟩:=List.mem_iff_getElem?.1 hx;exact hall j x (by have:=(List.getElem?_eq_some_iff.1 hj).1;omega) hj
theorem c3312{h:LH}{f:DFileC}{y:DFile}(hr:DFileR h.get f y)(hb5:y.items<=5)(hb0:0<=y.items){i:Nat}(hi:i<y.apps.length):FW X0 Tryz.prog 43 #[dfV f y,.int .i64 i] h fun r h'=>h=h'/\∃ g:Int,r=.int .i64 g /\
  (g=0->∀ a,y.apps[i]?=some a->DAppOk y.items a/\∀ (j:Nat) b,j<i->y.apps[j]?=some b->b.name≠a.name):=by
 refine w3312 _ _ _ _ _ _ _ _ _ _ _ _ _ _ _ _ _ _ _ _ _ _ X0_ok ?_;unfold n3312;have hn:=hr.apps.1;have hb:=hr.apps.2.1;obtain⟨x,a,hx,ha,g,e0,e1,e2,e3,ar⟩:=hr.apps.at (i:=i) (by omega);refine gZ ?_;refine t_loadStr e0 ?_;refine gZ ?_;refine t_call (FW.top (c3140 _)) ?_;rintro _ _ ⟨rfl,b,rfl,hname⟩;refine yI (fun _=>?_) (fun b1=>?_)
 ·exact t_ret ⟨rfl,4,rfl,fun e=>by cases e⟩
 have nok:NameOk x.name:=hname (by simpa using b1);refine t_loopB (fun mm vs h'=>h=h'/\∃ j:Nat,vs=[.int .i64 0,.int .i64 j]/\j<=i/\mm=i-j/\∀ (t:Nat) b,t<j->y.apps[t]?=some b->b.name≠x.name)
  (fun vs h'=>h=h'/\∃ j:Nat,vs=[.int .i64 0,.int .i64 j]/\∀ (t:Nat) b,t<i->y.apps[t]?=some b->b.name≠x.name) ⟨rfl,0,rfl,Nat.zero_le _,rfl,fun j x hj=>absurd hj (Nat.not_lt_zero _)⟩ ?_ ?_
 ·rintro Y mm vs _ hY ⟨rfl,j,rfl,hj,rfl,hall⟩;refine yJ (fun g1=>?_) (fun g1=>?_)
  ·obtain⟨z,a',hz,ha',g',e0',_,_,_,_⟩:=hr.apps.at (i:=j) (by omega);refine gZ ?_;refine t_loadStr e0' ?_;refine t_eqStr und9 fun b hbe=>?_;refine yI (fun _=>?_) (fun b2=>?_)
   ·refine gI ?_;refine gZ ?_;exact t_ret ⟨rfl,5,rfl,fun e=>by cases e⟩
   ·refine t_again (hY (i-(j+1)) _ _ (by omega) ⟨rfl,j+1,?_,by omega,rfl,fun t b' ht hb'=>?_⟩)
    ·rw[wrap_id (by omega) (by omega)];rfl
    ·by_cases e:t=j
     ·subst e;rw[hz]at hb';cases hb';intro hh;rw[hbe.2 hh]at b2;cases b2
     ·exact hall t b' (by omega) hb'
  ·exact gH ⟨rfl,j,rfl,fun t b ht=>hall t b (by omega)⟩
 rintro vs _ ⟨rfl,j,rfl,hno⟩;refine gZ ?_;refine t_call (FW.top (c3321 ar.papers)) ?_;rintro _ _ ⟨rfl,g1,rfl,hg1⟩;refine yI (fun b2=>?_) (fun b2=>?_)
 ·exact t_ret ⟨rfl,g1,rfl,fun e=>by subst e;simp at b2⟩
 refine t_call (FW.top (c3322 f y ar.claims hb5 hb0)) ?_;rintro _ _ ⟨rfl,g2,rfl,hg2⟩;refine yI (fun b3=>?_) (fun b3=>?_)
 ·exact t_ret ⟨rfl,g2,rfl,fun e=>by subst e;simp at b3⟩
 refine t_call (FW.top (c3323 ar.dues)) ?_;rintro _ _ ⟨rfl,g3,rfl,hg3⟩;refine gZ ?_;refine t_ret ⟨rfl,g3,rfl,fun e a0 ha0=>?_⟩;rw[hx]at ha0;cases ha0;have q1:=hg1 (by simpa using b2);have q2:=hg2 (by simpa using b3);have q3:=hg3 e;exact⟨⟨nok,q1.1,q1.2,q2.1,q2.2,q3.1,q3.2⟩,hno⟩
end
section
attribute [local irreducible] T.wp CV FWK
theorem und1325:Tryz.prog.underlying 103=some (.slice 38):=by kernel_rfl
theorem inf1006:(Tryz.prog.info? 38).map (fun i=>(i.size,i.bytes,i.zero))=some (2,16,some (.agg #[.int .i64 0,.int .i64 0])):=by kernel_rfl
theorem five_terms{vs:List Int}(h10:vs.length=10){r:Nat}{h:Cells}{el:TypeId}(hr:h r=some (true,.cells (vs.map fun v=>Value.int .i64 v).toArray el (0,0))){i:Nat}(hi:i<10):h.cell? ⟨r,i,none⟩=some (.int .i64 (vs.getD i 0)):=by
 unfold Cells.cell?;rw[hr];simp[List.getElem?_eq_getElem (show i<vs.length by omega),h10]
theorem c3306{h:LH}{f:DFileC}{y:DFile}(hr:DFileR h.get f y):Gr Tryz.prog 15 #[dfV f y] h fun r _=>∃ g:Int,r=.int .i64 g/\(g=0->DFileOk y):=by
 refine w3306 _ _ _ _ _ _ _ _ _ _ _ _ _ _ _ _ _ _ _ _ _ X0_ok ?_;unfold n3306;have hn:=hr.apps.1;have hb:=hr.apps.2.1;refine t_call (FW.top (c1039 hr.cal)) ?_;rintro _ _ ⟨rfl,g0,rfl,hcal⟩;refine yI (fun b=>?_) (fun b=>?_)
 ·exact t_ret ⟨LH.le_refl _,g0,rfl,fun e=>by subst e;simp at b⟩
 have cok:=hcal (by simpa using b);refine t_pu (c49 _ _ _) ?_;refine yI (fun _=>?_) (fun b1=>?_)
 ·exact t_ret ⟨LH.le_refl _,1,rfl,fun e=>by cases e⟩
 have k14:1<=y.kinds/\y.kinds<=4:=by
  unfold isIn at b1;simpa using b1
 generalize hvs:[y.mend.n,y.mend.unit,y.reach.n,y.reach.unit,y.late.n,y.late.unit,y.ask.n,y.ask.unit,y.most.n,y.most.unit]=vs;have h10:vs.length=10:=by rw[<- hvs];rfl
 refine t_build und1325 inf1006 (by decide) (by decide) (cells:=(vs.map fun v=>Value.int .i64 v).toArray) (by rw[<- hvs];kernel_rfl) fun r0 hr0=>?_;have le1:h.le _:=LH.upd_le (x:=(true,.cells (vs.map fun v=>Value.int .i64 v).toArray 38 (0,0))) hr0;generalize hh1:({ h with get:=h.get.upd r0 (true,.cells (vs.map fun v=>Value.int .i64 v).toArray 38 (0,0)) }:LH)=h1 at le1;have hrow:h1.get r0=some (true,.cells (vs.map fun v=>Value.int .i64 v).toArray 38 (0,0)):=by rw[<- hh1];exact Cells.upd_self _ _ _
 have hcell:∀ i:Nat,i<10->h1.get.cell? ⟨r0,i,none⟩=some (.int .i64 (vs.getD i 0)):=fun i hi=>five_terms h10 hrow hi;have hr1:=hr.le le1.1;clear hh1;refine gZ ?_;refine t_loopB (fun mm vs' h'=>h1=h'/\∃ i:Nat,vs'=[.int .i64 0,.int .i64 i]/\i<=5/\mm=5-i/\∀ j:Nat,j<i->TermOk ⟨vs.getD (j*2) 0,vs.getD (j*2+1) 0⟩)
  (fun vs' h'=>h1=h'/\∃ i:Nat,vs'=[.int .i64 0,.int .i64 i]/\∀ j:Nat,j<5->TermOk ⟨vs.getD (j*2) 0,vs.getD (j*2+1) 0⟩) ⟨rfl,0,rfl,Nat.zero_le _,rfl,fun j hj=>absurd hj (Nat.not_lt_zero _)⟩ ?_ ?_
 ·rintro Y mm vs' _ hY ⟨rfl,i,rfl,hi,rfl,hall⟩;refine yJ (fun e1=>?_) (fun e1=>?_)
  ·have hi5:i<5:=by omega
   have a0:h1.get.cell? (Addr.add (Addr.add ⟨r0,0,none⟩ (i*2)) 0)=some (.int .i64 (vs.getD (i*2) 0)):=by
    rw[add_plain,add_plain];simpa using hcell (i*2) (by omega)
   have a1:h1.get.cell? (Addr.add (Addr.add ⟨r0,0,none⟩ (i*2)) 1)=some (.int .i64 (vs.getD (i*2+1) 0)):=by
    rw[add_plain,add_plain];simpa using hcell (i*2+1) (by omega)
   have hin:0<=(i:Int)/\(i:Int)<((5:Nat):Int):=by omega
   refine gZ ?_;refine t_call (FW.top (c3311 _ _)) ?_;rintro _ _ ⟨rfl,g,rfl,hg⟩;refine yI (fun b2=>?_) (fun b2=>?_)
   ·refine gI ?_;refine gZ ?_;exact t_ret ⟨le1,g,rfl,fun e=>by subst e;simp at b2⟩
   refine t_again (hY (5-(i+1)) _ _ (by omega) ⟨rfl,i+1,?_,by omega,rfl,fun j hj=>?_⟩)
   ·rw[wrap_id (by omega) (by omega)];rfl
   ·by_cases e:j=i
    ·subst e;exact hg (by simpa using b2)
    ·exact hall j (by omega)
  ·exact gH ⟨rfl,i,rfl,fun j hj=>hall j (by omega)⟩
 rintro vs' _ ⟨rfl,i,rfl,hall⟩;refine gZ ?_;refine t_pu (c49 _ _ _) ?_;refine yI (fun _=>?_) (fun b3=>?_)
 ·exact t_ret ⟨le1,1,rfl,fun e=>by cases e⟩
 have i05:0<=y.items/\y.items<=5:=by
  unfold isIn at b3;simpa using b3
 refine t_if (fun e=>?_) (fun e4=>?_)
 ·exact t_ret ⟨le1,2,rfl,fun e=>by cases e⟩
 refine t_loop (fun mm vs' h'=>h1=h'/\∃ i:Nat,vs'=[.int .i64 0,.int .i64 i]/\i<=f.n/\mm=f.n-i/\∀ (t:Nat) a,t<i->y.apps[t]?=some a->DAppOk y.items a/\∀ (j:Nat) b,j<t->y.apps[j]?=some b->b.name≠a.name) ⟨rfl,0,rfl,Nat.zero_le _,rfl,fun j a hj=>absurd hj (Nat.not_lt_zero _)⟩ ?_;rintro Y mm vs' _ hY ⟨rfl,i,rfl,hi,rfl,happ⟩;refine yJ (fun e1=>?_) (fun e1=>?_)
 ·refine t_call (FW.top (c3312 hr1 i05.2 i05.1 (i:=i) (by omega))) ?_;rintro _ _ ⟨rfl,g,rfl,hg⟩;refine yI (fun b5=>?_) (fun b5=>?_)
  ·refine gI ?_;refine gZ ?_;exact t_ret ⟨le1,g,rfl,fun e=>by subst e;simp at b5⟩
  refine t_again (hY (f.n-(i+1)) _ _ (by omega) ⟨rfl,i+1,?_,by omega,rfl,fun t a ht ha=>?_⟩)
  ·rw[wrap_id (by omega) (by omega)];rfl
  ·by_cases e:t=i
   ·subst e;exact hg (by simpa using b5) a ha
   ·exact happ t a (by omega) ha
 ·refine gH ?_;refine gZ ?_;refine t_ret ⟨le1,0,rfl,fun _=>?_⟩;have hlt:∀ (t:Nat) a,y.apps[t]?=some a->t<i:=fun t a ha=>by have:=(List.getElem?_eq_some_iff.1 ha).1;omega
  subst hvs;refine⟨cok,k14,hall 0 (by decide),hall 1 (by decide),hall 2 (by decide),hall 3 (by decide),hall 4 (by decide),i05,by omega,fun a ha=>?_,fun t j a b ha hb hab=>?_⟩
  ·obtain⟨t,ht⟩:=List.mem_iff_getElem?.1 ha;exact(happ t a (hlt t a ht) ht).1
  ·rcases Nat.lt_trichotomy t j with e|e|e
   ·exact absurd hab ((happ j b (hlt j b hb) hb).2 t a e ha)
   ·exact e
   ·exact absurd hab.symm ((happ t a (hlt t a ha) ha).2 j b e hb)
theorem c3305{h:LH}{f:DFileC}{y:DFile}(hr:DFileR h.get f y):FW X0 Tryz.prog 14 #[dfV f y] h fun r h'=>h=h'/\∃ b,r=.bool b:=by
 refine w3305 _ _ _ _ _ _ _ _ _ _ _ _ _ _ _ _ _ _ _ _ _ X0_ok ?_;unfold n3305;have hn:=hr.apps.1;have hb:=hr.apps.2.1;refine t_blk (fun vs h'=>vs=[.bool false]/\h=h') ?_ ?_
 ·refine t_pu (c1038 f.cal) ?_;refine yI (fun _=>?_) (fun _=>?_)
  ·refine gI ?_;refine gZ ?_;exact t_ret ⟨rfl,_,rfl⟩
  refine t_if (fun _=>?_) (fun _=>?_)
  ·refine gI ?_;refine gZ ?_;exact t_ret ⟨rfl,_,rfl⟩
  ·exact t_again ⟨rfl,rfl⟩
 rintro vs _ ⟨rfl,rfl⟩;refine gZ ?_;refine t_loop (fun mm vs h'=>h=h'/\∃ i:Nat,vs=[.bool false,.int .i64 i]/\i<=f.n/\mm=f.n-i) ⟨rfl,0,rfl,Nat.zero_le _,rfl⟩ ?_;rintro Y mm vs _ hY ⟨rfl,i,rfl,hi,rfl⟩;refine yJ (fun e1=>?_) (fun e1=>?_)
 ·obtain⟨x,a,hx,ha,g,e0,e1',e2,e3,ar⟩:=hr.apps.at (i:=i) (by omega);have hk:=ar.claims.1;have hkb:=ar.claims.2.1;refine gZ ?_;refine t_loadStr e0 ?_;refine gZ ?_;refine t_blk (fun vs h'=>vs=[.bool false]/\h=h') ?_ ?_
  ·refine t_lenStr und9 ?_;refine yJ (fun _=>?_) (fun _=>?_)
   ·refine gI ?_;refine gZ ?_;exact t_ret ⟨rfl,_,rfl⟩
   refine t_if (fun _=>?_) (fun _=>?_)
   ·refine gI ?_;refine gZ ?_;exact t_ret ⟨rfl,_,rfl⟩
   refine t_if (fun _=>?_) (fun _=>?_)
   ·refine gI ?_;refine gZ ?_;exact t_ret ⟨rfl,_,rfl⟩
   refine t_if (fun _=>?_) (fun _=>?_)
   ·refine gI ?_;refine gZ ?_;exact t_ret ⟨rfl,_,rfl⟩
   ·exact t_again ⟨rfl,rfl⟩
  rintro vs _ ⟨rfl,rfl⟩;refine gZ ?_;refine t_loopB (fun mm vs h'=>h=h'/\∃ j:Nat,vs=[.bool false,.int .i64 j]/\j<=g.n2/\mm=g.n2-j) (fun vs h'=>h=h'/\∃ j:Nat,vs=[.bool false,.int .i64 j]) ⟨rfl,0,rfl,Nat.zero_le _,rfl⟩ ?_ ?_
  ·rintro Z mm vs _ hZ ⟨rfl,j,rfl,hj,rfl⟩;refine yJ (fun g1=>?_) (fun g1=>?_)
   ·obtain⟨v,a',hv,ha',_,_,q,k,qc,e4,_⟩:=ar.claims.at (i:=j) (by omega);refine yJ (fun _=>?_) (fun _=>?_)
    ·refine gI ?_;refine gZ ?_;exact t_ret ⟨rfl,_,rfl⟩
    ·refine t_again (hZ (g.n2-(j+1)) _ _ (by omega) ⟨rfl,j+1,?_,by omega,rfl⟩);rw[wrap_id (by omega) (by omega)];rfl
   ·exact gH ⟨rfl,j,rfl⟩
  ·rintro vs _ ⟨rfl,j,rfl⟩;refine gZ ?_;refine t_again (hY (f.n-(i+1)) _ _ (by omega) ⟨rfl,i+1,?_,by omega,rfl⟩);rw[wrap_id (by omega) (by omega)];rfl
 ·refine gH ?_;refine gZ ?_;exact t_ret ⟨rfl,_,rfl⟩
theorem c3301{h:LH}{f:DFileC}{y:DFile}(hr:DFileR h.get f y):Gr Tryz.prog 5 #[dfV f y] h fun r _=>∃ b,r=.bool b/\(b=true->DFileOk y/\0<y.apps.length):=by
 refine w3301 _ _ _ _ _ _ _ _ _ _ _ _ _ _ _ _ _ _ _ _ _ X0_ok ?_;unfold n3301;have hn:=hr.apps.1;refine t_call (FW.top (c3305 hr)) ?_;rintro _ _ ⟨rfl,b,rfl⟩;refine yI (fun _=>?_) (fun _=>?_)
 ·refine t_gr (c3306 hr) ?_;rintro _ h1 le1 ⟨g,rfl,hg⟩;refine yI (fun e=>?_) (fun e=>?_)
  ·refine t_ret ⟨le1,_,rfl,fun e2=>⟨hg (by simpa using e),?_⟩⟩;have:(f.n:Int)>0:=by simpa using e2
   omega
  ·exact t_ret ⟨le1,false,rfl,fun e=>by cases e⟩
 ·exact t_ret ⟨LH.le_refl _,false,rfl,fun e=>by cases e⟩
end
section
set_option linter.unusedVariables false
variable {X:XP} {h:LH} {A:Value->LH->Prop}
def n3313(x_0p:Option Addr)(x_0n x_0c:Nat)(x_1p:Option Addr)(x_1n x_1c:Nat)(x_2 x_3 x_4 x_5 x_6 x_7 x_8 x_9 x_10 x_11 x_12 x_13:Int)(x_14p:Option Addr)(x_14n x_14c:Nat):T:=.new 41 #[.slice x_0p x_0n x_0c,.slice x_1p x_1n x_1c,x_2,x_3,x_4,x_5,x_6,x_7,x_8,x_9,x_10,x_11,x_12,x_13,.slice x_14p x_14n x_14c] fun r=>.loadS ((Addr.add ⟨r,0,none⟩ 0).add 0) fun p n c=>.loadS ((Addr.add ⟨r,0,none⟩ 0).add 1) fun p_1 n_1 c_1=>.li (Addr.add ⟨r,0,none⟩ 2) fun n_2=>.li ((Addr.add ⟨r,0,none⟩ 3).add 0) fun n_3=>.li ((Addr.add ⟨r,0,none⟩ 3).add 1) fun n_4=>.li ((Addr.add ⟨r,0,none⟩ 5).add 0) fun n_5=>.li ((Addr.add ⟨r,0,none⟩ 5).add 1) fun n_6=>.li ((Addr.add ⟨r,0,none⟩ 7).add 0) fun n_7=>.li ((Addr.add ⟨r,0,none⟩ 7).add 1) fun n_8=>.li ((Addr.add ⟨r,0,none⟩ 9).add 0) fun n_9=>.li ((Addr.add ⟨r,0,none⟩ 9).add 1) fun n_10=>.li ((Addr.add ⟨r,0,none⟩ 11).add 0) fun n_11=>.li ((Addr.add ⟨r,0,none⟩ 11).add 1) fun n_12=>.li (Addr.add ⟨r,0,none⟩ 13) fun n_13=>.cI 89 #[.agg #[.slice p n c,.slice p_1 n_1 c_1]] fun n_14=>.li (Addr.add ⟨r,0,none⟩ 13) fun n_15=>.ne n_15 n_13 (.nO (Addr.add ⟨r,0,none⟩ 13) (.li ((Addr.add ⟨r,0,none⟩ 11).add 0) fun n_16=>.li ((Addr.add ⟨r,0,none⟩ 11).add 1) fun n_17=>.ne (.agg #[n_16,n_17]) (.agg #[n_11,n_12]) (.nO (Addr.add ⟨r,0,none⟩ 11) (.li ((Addr.add ⟨r,0,none⟩ 9).add 0) fun n_18=>.li ((Addr.add ⟨r,0,none⟩ 9).add 1) fun n_19=>.ne (.agg #[n_18,n_19]) (.agg #[n_9,n_10]) (.nO (Addr.add ⟨r,0,none⟩ 9) (.li ((Addr.add ⟨r,0,none⟩ 7).add 0) fun n_20=>.li ((Addr.add ⟨r,0,none⟩ 7).add 1) fun n_21=>.ne (.agg #[n_20,n_21]) (.agg #[n_7,n_8]) (.nO (Addr.add ⟨r,0,none⟩ 7) (.li ((Addr.add ⟨r,0,none⟩ 5).add 0) fun n_22=>.li ((Addr.add ⟨r,0,none⟩ 5).add 1) fun n_23=>.ne (.agg #[n_22,n_23]) (.agg #[n_5,n_6]) (.nO (Addr.add ⟨r,0,none⟩ 5) (.li ((Addr.add ⟨r,0,none⟩ 3).add 0) fun n_24=>.li ((Addr.add ⟨r,0,none⟩ 3).add 1) fun n_25=>.ne (.agg #[n_24,n_25]) (.agg #[n_3,n_4]) (.nO (Addr.add ⟨r,0,none⟩ 3) (.li (Addr.add ⟨r,0,none⟩ 2) fun n_26=>.ne n_26 n_2 (.nO (Addr.add ⟨r,0,none⟩ 2) (.loadS ((Addr.add ⟨r,0,none⟩ 0).add 0) fun p_2 n_27 c_2=>.loadS ((Addr.add ⟨r,0,none⟩ 0).add 1) fun p_3 n_28 c_3=>.ne (.agg #[.slice p_2 n_27 c_2,.slice p_3 n_28 c_3]) (.agg #[.slice p n c,.slice p_1 n_1 c_1]) (.nO (Addr.add ⟨r,0,none⟩ 0) (.cB 31 #[n_2,.int .i64 1,.int .i64 4] fun b=>.li (Addr.add ⟨r,0,none⟩ 13) fun n_29=>.ne n_29 n_13 (.nO (Addr.add ⟨r,0,none⟩ 13) (.li ((Addr.add ⟨r,0,none⟩ 11).add 0) fun n_30=>.li ((Addr.add ⟨r,0,none⟩ 11).add 1) fun n_31=>.ne (.agg #[n_30,n_31]) (.agg #[n_11,n_12]) (.nO (Addr.add ⟨r,0,none⟩ 11) (.li ((Addr.add ⟨r,0,none⟩ 9).add 0) fun n_32=>.li ((Addr.add ⟨r,0,none⟩ 9).add 1) fun n_33=>.ne (.agg #[n_32,n_33]) (.agg #[n_9,n_10]) (.nO (Addr.add ⟨r,0,none⟩ 9) (.li ((Addr.add ⟨r,0,none⟩ 7).add 0) fun n_34=>.li ((Addr.add ⟨r,0,none⟩ 7).add 1) fun n_35=>.ne (.agg #[n_34,n_35]) (.agg #[n_7,n_8]) (.nO (Addr.add ⟨r,0,none⟩ 7) (.li ((Addr.add ⟨r,0,none⟩ 5).add 0) fun n_36=>.li ((Addr.add ⟨r,0,none⟩ 5).add 1) fun n_37=>.ne (.agg #[n_36,n_37]) (.agg #[n_5,n_6]) (.nO (Addr.add ⟨r,0,none⟩ 5) (.li ((Addr.add ⟨r,0,none⟩ 3).add 0) fun n_38=>.li ((Addr.add ⟨r,0,none⟩ 3).add 1) fun n_39=>.ne (.agg #[n_38,n_39]) (.agg #[n_3,n_4]) (.nds [.O (Addr.add ⟨r,0,none⟩ 3),.O (Addr.add ⟨r,0,none⟩ 2)] (.loadS ((Addr.add ⟨r,0,none⟩ 0).add 0) fun p_4 n_40 c_4=>.loadS ((Addr.add ⟨r,0,none⟩ 0).add 1) fun p_5 n_41 c_5=>.ne (.agg #[.slice p_4 n_40 c_4,.slice p_5 n_41 c_5]) (.agg #[.slice p n c,.slice p_1 n_1 c_1]) (.nO (Addr.add ⟨r,0,none⟩ 0) (.cI 30 #[.bool !b,.int .i64 1] fun n_42=>.li (Addr.add ⟨r,0,none⟩ 13) fun n_43=>.ne n_43 n_13 (.nO (Addr.add ⟨r,0,none⟩ 13) (.li ((Addr.add ⟨r,0,none⟩ 11).add 0) fun n_44=>.li ((Addr.add ⟨r,0,none⟩ 11).add 1) fun n_45=>.ne (.agg #[n_44,n_45]) (.agg #[n_11,n_12]) (.nO (Addr.add ⟨r,0,none⟩ 11) (.li ((Addr.add ⟨r,0,none⟩ 9).add 0) fun n_46=>.li ((Addr.add ⟨r,0,none⟩ 9).add 1) fun n_47=>.ne (.agg #[n_46,n_47]) (.agg #[n_9,n_10]) (.nO (Addr.add ⟨r,0,none⟩ 9) (.li ((Addr.add ⟨r,0,none⟩ 7).add 0) fun n_48=>.li ((Addr.add ⟨r,0,none⟩ 7).add 1) fun n_49=>.ne (.agg #[n_48,n_49]) (.agg #[n_7,n_8]) (.nO (Addr.add ⟨r,0,none⟩ 7) (.li ((Addr.add ⟨r,0,none⟩ 5).add 0) fun n_50=>.li ((Addr.add ⟨r,0,none⟩ 5).add 1) fun n_51=>.ne (.agg #[n_50,n_51]) (.agg #[n_5,n_6]) (.nO (Addr.add ⟨r,0,none⟩ 5) (.li ((Addr.add ⟨r,0,none⟩ 3).add 0) fun n_52=>.li ((Addr.add ⟨r,0,none⟩ 3).add 1) fun n_53=>.ne (.agg #[n_52,n_53]) (.agg #[n_3,n_4]) (.nds [.O (Addr.add ⟨r,0,none⟩ 3),.O (Addr.add ⟨r,0,none⟩ 2)] (.loadS ((Addr.add ⟨r,0,none⟩ 0).add 0) fun p_6 n_54 c_6=>.loadS ((Addr.add ⟨r,0,none⟩ 0).add 1) fun p_7 n_55 c_7=>.ne (.agg #[.slice p_6 n_54 c_6,.slice p_7 n_55 c_7]) (.agg #[.slice p n c,.slice p_1 n_1 c_1]) (.nO (Addr.add ⟨r,0,none⟩ 0) (.cI 90 #[.agg #[n_3,n_4]] fun n_56=>.li (Addr.add ⟨r,0,none⟩ 13) fun n_57=>.ne n_57 n_13 (.nO (Addr.add ⟨r,0,none⟩ 13) (.li ((Addr.add ⟨r,0,none⟩ 11).add 0) fun n_58=>.li ((Addr.add ⟨r,0,none⟩ 11).add 1) fun n_59=>.ne (.agg #[n_58,n_59]) (.agg #[n_11,n_12]) (.nO (Addr.add ⟨r,0,none⟩ 11) (.li ((Addr.add ⟨r,0,none⟩ 9).add 0) fun n_60=>.li ((Addr.add ⟨r,0,none⟩ 9).add 1) fun n_61=>.ne (.agg #[n_60,n_61]) (.agg #[n_9,n_10]) (.nO (Addr.add ⟨r,0,none⟩ 9) (.li ((Addr.add ⟨r,0,none⟩ 7).add 0) fun n_62=>.li ((Addr.add ⟨r,0,none⟩ 7).add 1) fun n_63=>.ne (.agg #[n_62,n_63]) (.agg #[n_7,n_8]) (.nO (Addr.add ⟨r,0,none⟩ 7) (.li ((Addr.add ⟨r,0,none⟩ 5).add 0) fun n_64=>.li ((Addr.add ⟨r,0,none⟩ 5).add 1) fun n_65=>.ne (.agg #[n_64,n_65]) (.agg #[n_5,n_6]) (.nds [.O (Addr.add ⟨r,0,none⟩ 5),.O (Addr.add ⟨r,0,none⟩ 3),.O (Addr.add ⟨r,0,none⟩ 2)] (.loadS ((Addr.add ⟨r,0,none⟩ 0).add 0) fun p_8 n_66 c_8=>.loadS ((Addr.add ⟨r,0,none⟩ 0).add 1) fun p_9 n_67 c_9=>.ne (.agg #[.slice p_8 n_66 c_8,.slice p_9 n_67 c_9]) (.agg #[.slice p n c,.slice p_1 n_1 c_1]) (.nO (Addr.add ⟨r,0,none⟩ 0) (.cI 90 #[.agg #[n_5,n_6]] fun n_68=>.li (Addr.add ⟨r,0,none⟩ 13) fun n_69=>.ne n_69 n_13 (.nO (Addr.add ⟨r,0,none⟩ 13) (.li ((Addr.add ⟨r,0,none⟩ 11).add 0) fun n_70=>.li ((Addr.add ⟨r,0,none⟩ 11).add 1) fun n_71=>.ne (.agg #[n_70,n_71]) (.agg #[n_11,n_12]) (.nO (Addr.add ⟨r,0,none⟩ 11) (.li ((Addr.add ⟨r,0,none⟩ 9).add 0) fun n_72=>.li ((Addr.add ⟨r,0,none⟩ 9).add 1) fun n_73=>.ne (.agg #[n_72,n_73]) (.agg #[n_9,n_10]) (.nO (Addr.add ⟨r,0,none⟩ 9) (.li ((Addr.add ⟨r,0,none⟩ 7).add 0) fun n_74=>.li ((Addr.add ⟨r,0,none⟩ 7).add 1) fun n_75=>.ne (.agg #[n_74,n_75]) (.agg #[n_7,n_8]) (.nds [.O (Addr.add ⟨r,0,none⟩ 7),.O (Addr.add ⟨r,0,none⟩ 5),.O (Addr.add ⟨r,0,none⟩ 3),.O (Addr.add ⟨r,0,none⟩ 2)] (.loadS ((Addr.add ⟨r,0,none⟩ 0).add 0) fun p_10 n_76 c_10=>.loadS ((Addr.add ⟨r,0,none⟩ 0).add 1) fun p_11 n_77 c_11=>.ne (.agg #[.slice p_10 n_76 c_10,.slice p_11 n_77 c_11]) (.agg #[.slice p n c,.slice p_1 n_1 c_1]) (.nO (Addr.add ⟨r,0,none⟩ 0) (.cI 90 #[.agg #[n_7,n_8]] fun n_78=>.li (Addr.add ⟨r,0,none⟩ 13) fun n_79=>.ne n_79 n_13 (.nO (Addr.add ⟨r,0,none⟩ 13) (.li ((Addr.add ⟨r,0,none⟩ 11).add 0) fun n_80=>.li ((Addr.add ⟨r,0,none⟩ 11).add 1) fun n_81=>.ne (.agg #[n_80,n_81]) (.agg #[n_11,n_12]) (.nO (Addr.add ⟨r,0,none⟩ 11) (.li ((Addr.add ⟨r,0,none⟩ 9).add 0) fun n_82=>.li ((Addr.add ⟨r,0,none⟩ 9).add 1) fun n_83=>.ne (.agg #[n_82,n_83]) (.agg #[n_9,n_10]) (.nds [.O (Addr.add ⟨r,0,none⟩ 9),.O (Addr.add ⟨r,0,none⟩ 7),.O (Addr.add ⟨r,0,none⟩ 5),.O (Addr.add ⟨r,0,none⟩ 3),.O (Addr.add ⟨r,0,none⟩ 2)] (.loadS ((Addr.add ⟨r,0,none⟩ 0).add 0) fun p_12 n_84 c_12=>.loadS ((Addr.add ⟨r,0,none⟩ 0).add 1) fun p_13 n_85 c_13=>.ne (.agg #[.slice p_12 n_84 c_12,.slice p_13 n_85 c_13]) (.agg #[.slice p n c,.slice p_1 n_1 c_1]) (.nO (Addr.add ⟨r,0,none⟩ 0) (.cI 90 #[.agg #[n_9,n_10]] fun n_86=>.li (Addr.add ⟨r,0,none⟩ 13) fun n_87=>.ne n_87 n_13 (.nO (Addr.add ⟨r,0,none⟩ 13) (.li ((Addr.add ⟨r,0,none⟩ 11).add 0) fun n_88=>.li ((Addr.add ⟨r,0,none⟩ 11).add 1) fun n_89=>.ne (.agg #[n_88,n_89]) (.agg #[n_11,n_12]) (.nds [.O (Addr.add ⟨r,0,none⟩ 11),.O (Addr.add ⟨r,0,none⟩ 9),.O (Addr.add ⟨r,0,none⟩ 7),.O (Addr.add ⟨r,0,none⟩ 5),.O (Addr.add ⟨r,0,none⟩ 3),.O (Addr.add ⟨r,0,none⟩ 2)] (.loadS ((Addr.add ⟨r,0,none⟩ 0).add 0) fun p_14 n_90 c_14=>.loadS ((Addr.add ⟨r,0,none⟩ 0).add 1) fun p_15 n_91 c_15=>.ne (.agg #[.slice p_14 n_90 c_14,.slice p_15 n_91 c_15]) (.agg #[.slice p n c,.slice p_1 n_1 c_1]) (.nO (Addr.add ⟨r,0,none⟩ 0) (.cI 90 #[.agg #[n_11,n_12]] fun n_92=>.li (Addr.add ⟨r,0,none⟩ 13) fun n_93=>.ne n_93 n_13 (.nds [.O (Addr.add ⟨r,0,none⟩ 13),.O (Addr.add ⟨r,0,none⟩ 11),.O (Addr.add ⟨r,0,none⟩ 9),.O (Addr.add ⟨r,0,none⟩ 7),.O (Addr.add ⟨r,0,none⟩ 5),.O (Addr.add ⟨r,0,none⟩ 3),.O (Addr.add ⟨r,0,none⟩ 2)] (.loadS ((Addr.add ⟨r,0,none⟩ 0).add 0) fun p_16 n_94 c_16=>.loadS ((Addr.add ⟨r,0,none⟩ 0).add 1) fun p_17 n_95 c_17=>.ne (.agg #[.slice p_16 n_94 c_16,.slice p_17 n_95 c_17]) (.agg #[.slice p n c,.slice p_1 n_1 c_1]) (.nO (Addr.add ⟨r,0,none⟩ 0) (.cB 31 #[n_13,.int .i64 0,.int .i64 5] fun b=>.nds [.O (Addr.add ⟨r,0,none⟩ 13),.O (Addr.add ⟨r,0,none⟩ 11),.O (Addr.add ⟨r,0,none⟩ 9),.O (Addr.add ⟨r,0,none⟩ 7),.O (Addr.add ⟨r,0,none⟩ 5),.O (Addr.add ⟨r,0,none⟩ 3),.O (Addr.add ⟨r,0,none⟩ 2)] (.loadS ((Addr.add ⟨r,0,none⟩ 0).add 0) fun p_18 n_96 c_18=>.loadS ((Addr.add ⟨r,0,none⟩ 0).add 1) fun p_19 n_97 c_19=>.ne (.agg #[.slice p_18 n_96 c_18,.slice p_19 n_97 c_19]) (.agg #[.slice p n c,.slice p_1 n_1 c_1]) (.nO (Addr.add ⟨r,0,none⟩ 0) (.cI 30 #[.bool !b,.int .i64 1] fun n_98=>.nds [.O (Addr.add ⟨r,0,none⟩ 13),.O (Addr.add ⟨r,0,none⟩ 11),.O (Addr.add ⟨r,0,none⟩ 9),.O (Addr.add ⟨r,0,none⟩ 7),.O (Addr.add ⟨r,0,none⟩ 5),.O (Addr.add ⟨r,0,none⟩ 3),.O (Addr.add ⟨r,0,none⟩ 2)] (.loadS ((Addr.add ⟨r,0,none⟩ 0).add 0) fun p_20 n_99 c_20=>.loadS ((Addr.add ⟨r,0,none⟩ 0).add 1) fun p_21 n_100 c_21=>.ne (.agg #[.slice p_20 n_99 c_20,.slice p_21 n_100 c_21]) (.agg #[.slice p n c,.slice p_1 n_1 c_1]) (.nO (Addr.add ⟨r,0,none⟩ 0) (.sem false (Instr.buildSlice 131 8 #[(0,.int .i64 n_14),(1,.int .i64 n_42),(2,.int .i64 n_56),(3,.int .i64 n_68),(4,.int .i64 n_78),(5,.int .i64 n_86),(6,.int .i64 n_92),(7,.int .i64 n_98)]) fun v=>.unS v fun a n_101 c_22=>.nds [.O (Addr.add ⟨r,0,none⟩ 13),.O (Addr.add ⟨r,0,none⟩ 11),.O (Addr.add ⟨r,0,none⟩ 9),.O (Addr.add ⟨r,0,none⟩ 7),.O (Addr.add ⟨r,0,none⟩ 5),.O (Addr.add ⟨r,0,none⟩ 3),.O (Addr.add ⟨r,0,none⟩ 2)] (.loadS ((Addr.add ⟨r,0,none⟩ 0).add 0) fun p_22 n_102 c_23=>.loadS ((Addr.add ⟨r,0,none⟩ 0).add 1) fun p_23 n_103 c_24=>.ne (.agg #[.slice p_22 n_102 c_23,.slice p_23 n_103 c_24]) (.agg #[.slice p n c,.slice p_1 n_1 c_1]) (.nO (Addr.add ⟨r,0,none⟩ 0) (.cI 29 #[.slice a n_101 c_22] fun n_104=>.nds [.O (Addr.add ⟨r,0,none⟩ 13),.O (Addr.add ⟨r,0,none⟩ 11),.O (Addr.add ⟨r,0,none⟩ 9),.O (Addr.add ⟨r,0,none⟩ 7),.O (Addr.add ⟨r,0,none⟩ 5),.O (Addr.add ⟨r,0,none⟩ 3),.O (Addr.add ⟨r,0,none⟩ 2)] (.loadS ((Addr.add ⟨r,0,none⟩ 0).add 0) fun p_24 n_105 c_25=>.loadS ((Addr.add ⟨r,0,none⟩ 0).add 1) fun p_25 n_106 c_26=>.ne (.agg #[.slice p_24 n_105 c_25,.slice p_25 n_106 c_26]) (.agg #[.slice p n c,.slice p_1 n_1 c_1]) (.nO (Addr.add ⟨r,0,none⟩ 0) (bif n_104 != 0 then .rt (.int .i64 n_104) else .sem false (Instr.makeMap 165 none) fun v=>.unM v fun a=>.new 165 #[.map none] fun r_1=>.store (Addr.add ⟨r_1,0,none⟩ 0) (.map a) (.loadS (Addr.add ⟨r,0,none⟩ 14) fun p n c=>.cI 91 #[.slice p n c,.int .i64 4,.func (Fn.func 92) #[] #[.pointer (some ⟨r_1,0,none⟩),.pointer (some ⟨r,0,none⟩)]] fun n=>.rt (.int .i64 n))))))))))))))))))))))))))))))))))))))))))))))))))))))))))))))))))))))))))))))))))))))))))))))))))
theorem w3313(x_0p:Option Addr)(x_0n x_0c:Nat)(x_1p:Option Addr)(x_1n x_1c:Nat)(x_2 x_3 x_4 x_5 x_6 x_7 x_8 x_9 x_10 x_11 x_12 x_13:Int)(x_14p:Option Addr)(x_14n x_14c:Nat):FX X 56 #[.agg #[.slice x_0p x_0n x_0c,.slice x_1p x_1n x_1c,x_2,x_3,x_4,x_5,x_6,x_7,x_8,x_9,x_10,x_11,x_12,x_13,.slice x_14p x_14n x_14c]] h A (n3313 x_0p x_0n x_0c x_1p x_1n x_1c x_2 x_3 x_4 x_5 x_6 x_7 x_8 x_9 x_10 x_11 x_12 x_13 x_14p x_14n x_14c):=fk [] [] [] Tryz.f56
def n3324(lp:Option Addr)(ln lc:Nat)(most:Int)(flaw:Value):T:=bif decide ((↑ln:Int)>most) then .rt (.int .i64 2) else .loop [.int .i64 0,.int .i64 0] (fun vs=>.pi vs fun n vs=>.pi vs fun n_1 vs=>.unNil vs (bif decide (n_1<(↑ln:Int)) then .need (0<=n_1/\n_1<(↑ln:Int)) (.someA lp fun a=>.loadStr ((a.add (n_1.toNat*4)).add 0) fun s=>.loadS ((a.add (n_1.toNat*4)).add 1) fun p n_2 c=>.loadS ((a.add (n_1.toNat*4)).add 2) fun p_1 n_3 c_1=>.loadS ((a.add (n_1.toNat*4)).add 3) fun p_2 n_4 c_2=>.callv false flaw #[.agg #[.string s,.slice p n_2 c,.slice p_1 n_3 c_1,.slice p_2 n_4 c_2]] fun v=>.ui v fun n_5=>bif n_5 != 0 then .rn [n_5,n_1] else .ag [n,.int .i64 (wrap .i64 (n_1+1))]) else .bk [n,n_1])) (fun vs=>.pi vs fun n vs=>.pi vs fun n vs=>.unNil vs (.rt (.int .i64 0))) (fun vs=>.pi vs fun n vs=>.pi vs fun n_1 vs=>.unNil vs (.rt (.int .i64 n))) fun x x_1=>.fail
theorem w3324(lp:Option Addr)(ln lc:Nat)(most:Int)(flaw:Value):FX X 91 #[.slice lp ln lc,most,flaw] h A (n3324 lp ln lc most flaw):=fk [8] [⟨0,[(6,.int .i64),(16,.int .i64)],[],[],[],[]⟩] [] Tryz.f91
def n3325(a_0:ByteArray)(a_1p:Option Addr)(a_1n a_1c:Nat)(a_2p:Option Addr)(a_2n a_2c:Nat)(a_3p:Option Addr)(a_3n a_3c:Nat)(z0 z1:Addr):T:=.cB 93 #[.string a_0] fun b=>bif !b then .rt (.int .i64 4) else .loadM z0 fun p=>.sem false (Instr.lookup 165 (.map p) (.string a_0) false) fun v=>.unB v fun b=>bif b then .rt (.int .i64 5) else .loadM z0 fun p=>.sem false (Sem.bind (Instr.mapUpdate 165 (.map p) (.string a_0) (.bool true)) fun __r=>pure (.tuple #[])) fun x=>.cI 94 #[.slice a_1p a_1n a_1c,.int .i64 8,.func (Fn.func 95) #[] #[]] fun n=>.cI 97 #[.slice a_2p a_2n a_2c,.int .i64 4,.func (Fn.func 98) #[] #[.pointer (some z1)]] fun n_1=>.cI 99 #[.slice a_3p a_3n a_3c,.int .i64 4,.func (Fn.func 100) #[] #[]] fun n_2=>.sem false (Instr.buildSlice 131 3 #[(0,.int .i64 n),(1,.int .i64 n_1),(2,.int .i64 n_2)]) fun v=>.unS v fun a n c=>.cI 29 #[.slice a n c] fun n=>.rt (.int .i64 n)
theorem w3325(a_0:ByteArray)(a_1p:Option Addr)(a_1n a_1c:Nat)(a_2p:Option Addr)(a_2n a_2c:Nat)(a_3p:Option Addr)(a_3n a_3c:Nat)(z0 z1:Addr):FX X 92 #[.agg #[.string a_0,.slice a_1p a_1n a_1c,.slice a_2p a_2n a_2c,.slice a_3p a_3n a_3c],.pointer (some z0),.pointer (some z1)] h A (n3325 a_0 a_1p a_1n a_1c a_2p a_2n a_2c a_3p a_3n a_3c z0 z1):=fk [3] [] [] Tryz.f92
def n3326(s:ByteArray):T:=.sem false (Builtin.len_ #[9] 3 #[.string s]) fun v=>.ui v fun n=>.cB 31 #[n,.int .i64 1,.int .i64 10] fun b=>bif !b then .rt (.bool false) else .sem false (Instr.index 9 (.string s) (.int .i64 0)) fun v=>.unI .u8 v fun n=>bif decide (n<97) then .rt (.bool false) else .sem false (Instr.index 9 (.string s) (.int .i64 0)) fun v=>.unI .u8 v fun n=>bif decide (n>122) then .rt (.bool false) else .sem false (convert 9 193 (.string s)) fun v=>.unS v fun a n c=>.cB 120 #[.slice a n c,.func (Fn.func 121) #[] #[]] fun b=>.rt (.bool !b)
theorem w3326(s:ByteArray):FX X 93 #[.string s] h A (n3326 s):=fk [] [] [] Tryz.f93
def n3340(c:Int):T:=bif decide (c<97) then bif decide (c<48) then .rt (.bool true) else .rt (.bool (decide (c>57))) else bif decide (c>122) then bif decide (c<48) then .rt (.bool true) else .rt (.bool (decide (c>57))) else .rt (.bool false)
theorem w3340(c:Int):FX X 121 #[.int .u8 c] h A (n3340 c):=fk [] [] [] Tryz.f121
def n3327(lp:Option Addr)(ln lc:Nat)(most:Int)(flaw:Value):T:=bif decide ((↑ln:Int)>most) then .rt (.int .i64 2) else .loop [.int .i64 0,.int .i64 0] (fun vs=>.pi vs fun n vs=>.pi vs fun n_1 vs=>.unNil vs (bif decide (n_1<(↑ln:Int)) then .need (0<=n_1/\n_1<(↑ln:Int)) (.someA lp fun a=>.li ((a.add (n_1.toNat*2)).add 0) fun n_2=>.li ((a.add (n_1.toNat*2)).add 1) fun n_3=>.callv false flaw #[.agg #[n_2,n_3]] fun v=>.ui v fun n_4=>bif n_4 != 0 then .rn [n_4,n_1] else .ag [n,.int .i64 (wrap .i64 (n_1+1))]) else .bk [n,n_1])) (fun vs=>.pi vs fun n vs=>.pi vs fun n vs=>.unNil vs (.rt (.int .i64 0))) (fun vs=>.pi vs fun n vs=>.pi vs fun n_1 vs=>.unNil vs (.rt (.int .i64 n))) fun x x_1=>.fail
theorem w3327(lp:Option Addr)(ln lc:Nat)(most:Int)(flaw:Value):FX X 94 #[.slice lp ln lc,most,flaw] h A (n3327 lp ln lc most flaw):=fk [8] [⟨0,[(6,.int .i64),(16,.int .i64)],[],[],[],[]⟩] [] Tryz.f94
def n3328(p_0 p_1:Int):T:=.cB 31 #[p_0,.int .i64 0,.int .i64 3] fun b=>bif !b then .cI 30 #[true,.int .i64 1] fun n=>.rt (.int .i64 n) else .cB 96 #[p_1] fun b=>.cI 30 #[.bool !b,.int .i64 1] fun n=>.rt (.int .i64 n)
theorem w3328(p_0 p_1:Int):FX X 95 #[.agg #[p_0,p_1]] h A (n3328 p_0 p_1):=fk [1] [] [] Tryz.f95
def n3329(lp:Option Addr)(ln lc:Nat)(most:Int)(flaw:Value):T:=bif decide ((↑ln:Int)>most) then .rt (.int .i64 2) else .loop [.int .i64 0,.int .i64 0] (fun vs=>.pi vs fun n vs=>.pi vs fun n_1 vs=>.unNil vs (bif decide (n_1<(↑ln:Int)) then .need (0<=n_1/\n_1<(↑ln:Int)) (.someA lp fun a=>.li ((a.add (n_1.toNat*3)).add 0) fun n_2=>.li ((a.add (n_1.toNat*3)).add 1) fun n_3=>.loadS ((a.add (n_1.toNat*3)).add 2) fun p n_4 c=>.callv false flaw #[.agg #[n_2,n_3,.slice p n_4 c]] fun v=>.ui v fun n_5=>bif n_5 != 0 then .rn [n_5,n_1] else .ag [n,.int .i64 (wrap .i64 (n_1+1))]) else .bk [n,n_1])) (fun vs=>.pi vs fun n vs=>.pi vs fun n vs=>.unNil vs (.rt (.int .i64 0))) (fun vs=>.pi vs fun n vs=>.pi vs fun n_1 vs=>.unNil vs (.rt (.int .i64 n))) fun x x_1=>.fail
theorem w3329(lp:Option Addr)(ln lc:Nat)(most:Int)(flaw:Value):FX X 97 #[.slice lp ln lc,most,flaw] h A (n3329 lp ln lc most flaw):=fk [8] [⟨0,[(6,.int .i64),(16,.int .i64)],[],[],[],[]⟩] [] Tryz.f97
def n3330(c_0 c_1:Int)(c_2p:Option Addr)(c_2n c_2c:Nat)(z0:Addr):T:=.blk (.cB 96 #[c_0] fun b=>bif !b then .rn [.int .i64 1] else .cB 96 #[c_1] fun b=>bif !b then .rn [.int .i64 1] else .ag [.int .i64 0]) (fun vs=>.pi vs fun n vs=>.unNil vs (.loop [n,.int .i64 0] (fun vs=>.pi vs fun n vs=>.pi vs fun n_1 vs=>.unNil vs (bif decide (n_1<(↑c_2n:Int)) then .need (0<=n_1/\n_1<(↑c_2n:Int)) (.someA c_2p fun a=>.li (a.add (n_1.toNat*1)) fun n_2=>.li (z0.add 13) fun n_3=>.cB 31 #[n_2,.int .i64 0,.int .i64 (wrap .i64 (n_3-1))] fun b=>bif !b then .rn [.int .i64 6,n_1] else bif decide (n_1>0) then .need (0<=wrap .i64 (n_1-1)/\wrap .i64 (n_1-1)<(↑c_2n:Int)) (.someA c_2p fun a=>.li (a.add ((wrap .i64 (n_1-1)).toNat*1)) fun n_4=>bif decide (n_2<=n_4) then .rn [.int .i64 7,n_1] else .ag [n,.int .i64 (wrap .i64 (n_1+1))]) else .ag [n,.int .i64 (wrap .i64 (n_1+1))]) else .bk [n,n_1])) (fun vs=>.pi vs fun n vs=>.pi vs fun n vs=>.unNil vs (.rt (.int .i64 0))) (fun vs=>.pi vs fun n vs=>.pi vs fun n_1 vs=>.unNil vs (.rt (.int .i64 n))) fun x x_1=>.fail)) (fun vs=>.pi vs fun n vs=>.unNil vs (.rt (.int .i64 n))) fun x x_1=>.fail
theorem w3330(c_0 c_1:Int)(c_2p:Option Addr)(c_2n c_2c:Nat)(z0:Addr):FX X 98 #[.agg #[c_0,c_1,.slice c_2p c_2n c_2c],.pointer (some z0)] h A (n3330 c_0 c_1 c_2p c_2n c_2c z0):=fk [2] [⟨0,[(3,.int .i64),(19,.int .i64)],[2],[],[],[]⟩] [⟨3,[(3,.int .i64)],[2],[],[],[]⟩] Tryz.f98
def n3331(lp:Option Addr)(ln lc:Nat)(most:Int)(flaw:Value):T:=bif decide ((↑ln:Int)>most) then .rt (.int .i64 2) else .loop [.int .i64 0,.int .i64 0] (fun vs=>.pi vs fun n vs=>.pi vs fun n_1 vs=>.unNil vs (bif decide (n_1<(↑ln:Int)) then .need (0<=n_1/\n_1<(↑ln:Int)) (.someA lp fun a=>.li ((a.add (n_1.toNat*6)).add 0) fun n_2=>.li ((a.add (n_1.toNat*6)).add 1) fun n_3=>.li ((a.add (n_1.toNat*6)).add 2) fun n_4=>.li ((a.add (n_1.toNat*6)).add 3) fun n_5=>.li ((a.add (n_1.toNat*6)).add 4) fun n_6=>.li ((a.add (n_1.toNat*6)).add 5) fun n_7=>.callv false flaw #[.agg #[n_2,n_3,n_4,n_5,n_6,n_7]] fun v=>.ui v fun n_8=>bif n_8 != 0 then .rn [n_8,n_1] else .ag [n,.int .i64 (wrap .i64 (n_1+1))]) else .bk [n,n_1])) (fun vs=>.pi vs fun n vs=>.pi vs fun n vs=>.unNil vs (.rt (.int .i64 0))) (fun vs=>.pi vs fun n vs=>.pi vs fun n_1 vs=>.unNil vs (.rt (.int .i64 n))) fun x x_1=>.fail
theorem w3331(lp:Option Addr)(ln lc:Nat)(most:Int)(flaw:Value):FX X 99 #[.slice lp ln lc,most,flaw] h A (n3331 lp ln lc most flaw):=fk [8] [⟨0,[(6,.int .i64),(16,.int .i64)],[],[],[],[]⟩] [] Tryz.f99
def n3332(d_0 d_1 d_2 d_3 d_4 d_5:Int):T:=.cB 96 #[d_0] fun b=>.nds [d_3,.pp 1 3,.val (.agg #[d_1,d_2]),.pp 1 1,.pp 1 0] (.cI 30 #[.bool !b,.int .i64 1] fun n=>.nds [d_3,.pp 1 3,.val (.agg #[d_1,d_2]),.pp 1 1,.pp 1 0] (.cI 90 #[.agg #[d_1,d_2]] fun n_1=>.nds [d_3,.pp 1 3,.pp 1 1,.pp 1 0] (.cB 101 #[d_3] fun b=>.nds [.pp 1 3,.pp 1 1,.pp 1 0] (bif !b then .nds [.U,.B (!b),.pp 1 3,.pp 1 1,.pp 1 0,.U,.B (!b),.pp 1 3,.pp 1 1,.pp 1 0,.U,true,.U,.B (!b),.pp 1 3,.pp 1 1,.pp 1 0,.U,true,.U,.B (!b),.pp 1 3,.pp 1 1,.pp 1 0] (.cI 30 #[true,.int .i64 1] fun n_2=>.nds [.U,true,.U,.B (!b),.pp 1 3,.pp 1 1,.pp 1 0] (.sem false (Instr.buildSlice 131 3 #[(0,.int .i64 n),(1,.int .i64 n_1),(2,.int .i64 n_2)]) fun v=>.unS v fun a n c=>.nds [.U,true,.U,.B (!b),.pp 1 3,.pp 1 1,.pp 1 0] (.cI 29 #[.slice a n c] fun n=>.nds [.U,true,.U,.B (!b),.pp 1 3,.pp 1 1,.pp 1 0] (.rt (.int .i64 n))))) else .cB 101 #[d_4] fun b_1=>.nds [.pp 1 4,.B (!b),.pp 1 3,.pp 1 1,.pp 1 0] (bif !b_1 then .nds [.U,.B (!b_1),.B (!b_1),.pp 1 4,.B (!b),.pp 1 3,.pp 1 1,.pp 1 0,.U,.B (!b_1),.B (!b_1),.pp 1 4,.B (!b),.pp 1 3,.pp 1 1,.pp 1 0] (.cI 30 #[true,.int .i64 1] fun n_2=>.nds [.U,.B (!b_1),.B (!b_1),.pp 1 4,.B (!b),.pp 1 3,.pp 1 1,.pp 1 0] (.sem false (Instr.buildSlice 131 3 #[(0,.int .i64 n),(1,.int .i64 n_1),(2,.int .i64 n_2)]) fun v=>.unS v fun a n c=>.nds [.U,.B (!b_1),.B (!b_1),.pp 1 4,.B (!b),.pp 1 3,.pp 1 1,.pp 1 0] (.cI 29 #[.slice a n c] fun n=>.nds [.U,.B (!b_1),.B (!b_1),.pp 1 4,.B (!b),.pp 1 3,.pp 1 1,.pp 1 0] (.rt (.int .i64 n))))) else .cB 101 #[d_5] fun b_2=>.nds [.pp 1 5,.B (!b_1),.B (!b_1),.pp 1 4,.B (!b),.pp 1 3,.pp 1 1,.pp 1 0] (.cI 30 #[.bool !b_2,.int .i64 1] fun n_2=>.nds [.B (!b_2),.pp 1 5,.B (!b_1),.B (!b_1),.pp 1 4,.B (!b),.pp 1 3,.pp 1 1,.pp 1 0] (.sem false (Instr.buildSlice 131 3 #[(0,.int .i64 n),(1,.int .i64 n_1),(2,.int .i64 n_2)]) fun v=>.unS v fun a n c=>.nds [.B (!b_2),.pp 1 5,.B (!b_1),.B (!b_1),.pp 1 4,.B (!b),.pp 1 3,.pp 1 1,.pp 1 0] (.cI 29 #[.slice a n c] fun n=>.nds [.B (!b_2),.pp 1 5,.B (!b_1),.B (!b_1),.pp 1 4,.B (!b),.pp 1 3,.pp 1 1,.pp 1 0] (.rt (.int .i64 n))))))))))
theorem w3332(d_0 d_1 d_2 d_3 d_4 d_5:Int):FX X 100 #[.agg #[d_0,d_1,d_2,d_3,d_4,d_5]] h A (n3332 d_0 d_1 d_2 d_3 d_4 d_5):=fk [1] [] [] Tryz.f100
def n3333(n:Int):T:=bif n==-1 then .rt (.bool true) else .cB 96 #[n] fun b=>.rt (.bool b)
theorem w3333(n:Int):FX X 101 #[n] h A (n3333 n):=fk [] [] [] Tryz.f101
end
section
attribute [local irreducible] T.wp CV FWK
theorem c3340{h:LH}(c:UInt8):Pu Tryz.prog 121 #[.int .u8 (c.toNat:Int)] h (.bool (!(letterB c||digitB c))):=by
 refine w3340 _ X0_ok ?_;unfold n3340;unfold letterB digitB;refine t_if (fun e1=>?_) (fun e1=>?_)
 ·refine t_if (fun e2=>?_) (fun e2=>?_)<;>refine t_ret ⟨?_,rfl⟩
  ·have h1:¬ 97<=c.toNat:=by omega
   have h2:¬ 48<=c.toNat:=by omega
   simp[h1,h2]
  ·have h1:¬ 97<=c.toNat:=by omega
   have h2:48<=c.toNat:=by omega
   by_cases h3:c.toNat<=57
   ·have:¬ (c.toNat:Int)>57:=by omega
    simp[h1,h2,h3,this]
   ·have:(c.toNat:Int)>57:=by omega
    simp[h1,h2,h3,this]
 ·have h1:97<=c.toNat:=by omega
  refine t_if (fun e2=>?_) (fun e2=>?_)
  ·refine t_if (fun e3=>by omega) (fun e3=>?_);refine t_ret ⟨?_,rfl⟩;have h2:¬ c.toNat<=122:=by omega
   have h3:¬ c.toNat<=57:=by omega
   have:(c.toNat:Int)>57:=by omega
   simp[h2,h3,this]
  ·refine t_ret ⟨?_,rfl⟩;have h2:c.toNat<=122:=by omega
   simp[h1,h2]
theorem c3326{h:LH}{s:ByteArray}(hs:NameOk s):Gr Tryz.prog 93 #[.string s] h fun r _=>r=.bool true:=by
 refine w3326 _ X0_ok ?_;unfold n3326;have hsz:=hs.size;have h0:0<s.data.size:=hsz.1;have hc:=Array.getElem?_eq_getElem (xs:=s.data) (i:=0) h0;generalize s.data[0]=c at hc;have hl:letterB c=true:=(hs.all 0 c hc).resolve_right (fun hh=>hh.2 rfl);unfold letterB at hl;simp only[Bool.and_eq_true,decide_eq_true_eq]at hl;refine t_lenStr und9 ?_;refine gZ ?_;refine t_pu (c1102 _ _ _) ?_;have e1:isIn (s.size:Int) 1 10=true:=by unfold isIn;simp;omega
 rw[e1];refine yF ?_;refine t_indexS (i:=0) und9 hc ?_;refine gZ ?_;refine t_if (fun e=>by omega) (fun _=>?_);refine t_indexS (i:=0) und9 hc ?_;refine gZ ?_;refine t_if (fun e=>by omega) (fun _=>?_);refine t_bytes und9 und1275 undU8 (by omega) fun r cap h1 le1 hsl=>?_;refine gZ ?_;refine t_pu (c3239 hsl (g:=fun c=>!(letterB c||digitB c)) (fun x=>?_)) ?_
 ·exact CV.mono (cv_fw X0_ok (by rfl) (c3340 x)) (by rintro v h' ⟨rfl,rfl⟩;exact⟨rfl,rfl⟩)
 have hany:(s.data.toList.any fun c=>!(letterB c||digitB c))=false:=by
  rw[List.any_eq_false];intro c hc;obtain⟨i,hi⟩:=List.mem_iff_getElem?.1 hc;rcases hs.all i c (by simpa using hi) with h1|⟨h1,_⟩<;>simp[h1]
 rw[hany];refine gZ ?_;exact t_ret ⟨le1,rfl⟩
theorem inDay{n:Int}(h:DayOk n):isIn n 0 36524=true:=by
 unfold isIn;unfold DayOk at h;simp[h]
theorem c3333{h:LH}{n:Int}(ok:DoneOk n):Pu Tryz.prog 101 #[n] h (.bool true):=by
 refine w3333 _ X0_ok ?_;unfold n3333;refine t_cond (fun e=>?_) (fun e=>?_)
 ·exact t_ret ⟨rfl,rfl⟩
 ·have e':¬ n = -1:=by simpa using e
  refine t_pu (c1077 _) ?_;rw[inDay (ok.resolve_left e')];refine gZ ?_;exact t_ret ⟨rfl,rfl⟩
theorem c3328{h:LH}{x:DPaper}(ok:(0<=x.kind/\x.kind<=3)/\DayOk x.day):Pu Tryz.prog 95 #[.agg #[.int .i64 x.kind,.int .i64 x.day]] h (.int .i64 0):=by
 refine w3328 _ _ X0_ok ?_;unfold n3328;refine t_pu (c1102 _ _ _) ?_;have e1:isIn x.kind 0 3=true:=by unfold isIn;simp[ok.1]
 rw[e1];refine yF ?_;refine t_pu (c1077 _) ?_;rw[inDay ok.2];refine gZ ?_;refine t_pu (c1076 _ _) ?_;refine gZ ?_;exact t_ret ⟨rfl,rfl⟩
theorem c3330{h:LH}{x:DClaim}{items:Int}{z:Addr}(hz:h.get.cell? (z.add 13)=some (.int .i64 items))(h05:0<=items/\items<=5){q:Option Addr}{k qc:Nat}(hs:Sl IntE 1 h.get q k x.items)(ok:DayOk x.from_/\DayOk x.made/\RiseOk items x.items) :
  Pu Tryz.prog 98 #[.agg #[.int .i64 x.from_,.int .i64 x.made,.slice q k qc],.pointer (some z)] h (.int .i64 0):=by
 refine w3330 _ _ _ _ _ _ X0_ok ?_;unfold n3330;have hk:=hs.1;have hkb:=hs.2.1;refine t_blk (fun vs h'=>vs=[.int .i64 0]/\h=h') ?_ ?_
 ·refine t_pu (c1077 _) ?_;rw[inDay ok.1];refine yF ?_;refine t_pu (c1077 _) ?_;rw[inDay ok.2.1];refine yF ?_;exact t_again ⟨rfl,rfl⟩
 rintro vs _ ⟨rfl,rfl⟩;refine gZ ?_;refine t_loop (fun mm vs h'=>h=h'/\∃ i:Nat,vs=[.int .i64 0,.int .i64 i]/\i<=k/\mm=k-i) ⟨rfl,0,rfl,Nat.zero_le _,rfl⟩ ?_;rintro Y mm vs _ hY ⟨rfl,i,rfl,hi,rfl⟩;refine yJ (fun e1=>?_) (fun e1=>?_)
 ·obtain⟨v,a,hv,ha,e2⟩:=hs.at (i:=i) (by omega);unfold IntE at e2;obtain⟨r1,r2⟩:=ok.2.2 i v hv;have next:Y [.int .i64 0,.int .i64 (wrap .i64 ((i:Int)+1))] h:=by
   refine hY (k-(i+1)) _ _ (by omega) ⟨rfl,i+1,?_,by omega,rfl⟩;rw[wrap_id (by omega) (by omega)];rfl
  refine gZ ?_;rw[wrap_id (n:=items-1) (by omega) (by omega)];refine t_pu (c1102 _ _ _) ?_;have e3:isIn v 0 (items-1)=true:=by unfold isIn;simp[r1]
  rw[e3];refine yF ?_;refine t_if (fun g2=>?_) (fun _=>t_again next);obtain⟨u,a2,hu,ha2,e6⟩:=hs.at (i:=i-1) (by omega);unfold IntE at e6;rw[ha]at ha2;cases ha2;have hlt:=r2 u (by omega) hu;have ewj:wrap .i64 ((i:Int)-1)=((i-1:Nat):Int):=by rw[wrap_id (by omega) (by omega)];omega
  rw[ewj];have hin:0<=((i-1:Nat):Int)/\((i-1:Nat):Int)<(k:Int):=by omega
  refine gZ ?_;refine t_if (fun e=>by omega) (fun _=>t_again next)
 ·refine gH ?_;refine gZ ?_;exact t_ret ⟨rfl,rfl⟩
theorem zeros_sl{h:LH}{r:Nat}{k:Nat}(hk:k<100){h1:LH}(e:h1={ h with get:=h.get.upd r (true,.cells (Array.replicate k (Value.int .i64 0)) 45 (0,0)) }):Sl IntE 1 h1.get (some ⟨r,0,none⟩) k (List.replicate k 0):=by
 subst e;refine⟨by simp,by simp;omega,fun i x hx=>⟨_,rfl,?_⟩⟩;unfold IntE;rw[add_plain,add_plain];obtain⟨h1,h2⟩:=List.getElem?_eq_some_iff.1 hx;simp at h1 h2;subst h2;refine cell_upd ?_;rw[Array.getElem?_replicate];simp[h1]
theorem zeros_sl'{h1:LH}{r:Nat}{k:Nat}(hk:k<100)(hb:h1.get r=some (true,.cells (Array.replicate k (Value.int .i64 0)) 45 (0,0))):Sl IntE 1 h1.get (some ⟨r,0,none⟩) k (List.replicate k 0):=by
 refine⟨by simp,by simp;omega,fun i x hx=>⟨_,rfl,?_⟩⟩;unfold IntE;rw[add_plain,add_plain];obtain⟨h1,h2⟩:=List.getElem?_eq_some_iff.1 hx;simp at h1 h2;subst h2;refine cell_blk hb ?_;rw[Array.getElem?_replicate];simp[h1]
theorem firstNZ_zeros:∀ k:Nat,firstNZ (List.replicate k 0)=0
 | 0=>rfl
 | k+1=>by rw[List.replicate_succ,firstNZ,if_neg (by simp)];exact firstNZ_zeros k
theorem c3332{h:LH}{x:DDue}(ok:DayOk x.start/\TermOk x.term/\DoneOk x.done/\DoneOk x.freed/\DoneOk x.asked):Gr Tryz.prog 100 #[.agg #[.int .i64 x.start,.int .i64 x.term.n,.int .i64 x.term.unit,.int .i64 x.done,.int .i64 x.freed,.int .i64 x.asked]] h fun r _=>r=.int .i64 0:=by
 refine w3332 _ _ _ _ _ _ X0_ok ?_;unfold n3332;obtain⟨o1,o2,o3,o4,o5⟩:=ok;refine t_pu (c1077 _) ?_;rw[inDay o1];refine gZ ?_;refine t_pu (c1076 _ _) ?_;refine gZ ?_;refine t_pu (c1078 o2.1 o2.2) ?_;refine gZ ?_;refine t_pu (c3333 o3) ?_;refine yF ?_;refine t_pu (c3333 o4) ?_;refine yF ?_;refine t_pu (c3333 o5) ?_;refine gZ ?_;refine t_pu (c1076 _ _) ?_;refine gZ ?_;refine t_build und134 inf31 (by decide) (by decide) (cells:=Array.replicate 3 (Value.int .i64 0)) (by kernel_rfl) fun r hr0=>?_;have le1:h.le _:=LH.upd_le (x:=(true,.cells (Array.replicate 3 (Value.int .i64 0)) 45 (0,0))) hr0;refine gZ ?_;refine t_pu (c1074 (zeros_sl (k:=3) (by decide) rfl)) ?_;rw[firstNZ_zeros];refine gZ ?_;exact t_ret ⟨le1,rfl⟩
end
section
attribute [local irreducible] T.wp CV FWK
theorem c3327{h:LH}{p:Option Addr}{n c:Nat}{l:List DPaper}{most:Int}{fv:Value}(hl:Sl DPaperE 2 h.get p n l)(hm:(l.length:Int)<=most)(hf:∀ x∈l,CV X0 Tryz.prog fv #[.agg #[.int .i64 x.kind,.int .i64 x.day]] h fun r h'=>r=.int .i64 0/\h'=h) :
  Pu Tryz.prog 94 #[.slice p n c,most,fv] h (.int .i64 0):=by
 refine w3327 _ _ _ _ _ X0_ok ?_;unfold n3327;have hn:=hl.1;have hb:=hl.2.1;refine t_if (fun e=>by omega) (fun _=>?_);refine t_loop (fun mm vs h'=>h=h'/\∃ i:Nat,vs=[.int .i64 0,.int .i64 i]/\i<=n/\mm=n-i) ⟨rfl,0,rfl,Nat.zero_le _,rfl⟩ ?_;rintro Y mm vs _ hY ⟨rfl,i,rfl,hi,rfl⟩;refine yJ (fun e1=>?_) (fun e1=>?_)
 ·obtain⟨x,a,hx,ha,e2,e3⟩:=hl.at (i:=i) (by omega);refine gZ ?_;refine t_callv (hf x (List.mem_of_getElem? hx)) ?_;rintro _ _ ⟨rfl,rfl⟩;refine gZ ?_;refine t_cond (fun e=>absurd e (by decide)) (fun _=>?_);refine t_again (hY (n-(i+1)) _ _ (by omega) ⟨rfl,i+1,?_,by omega,rfl⟩);rw[wrap_id (by omega) (by omega)];rfl
 ·refine gH ?_;refine gZ ?_;exact t_ret ⟨rfl,rfl⟩
theorem c3329{h:LH}{p:Option Addr}{n c:Nat}{l:List DClaim}{most:Int}{fv:Value}(hl:Sl DClaimE 3 h.get p n l)(hm:(l.length:Int)<=most)(hf:∀ x∈l,∀ q k qc,Sl IntE 1 h.get q k x.items->CV X0 Tryz.prog fv #[.agg #[.int .i64 x.from_,.int .i64 x.made,.slice q k qc]] h fun r h'=>r=.int .i64 0/\h'=h) :
  Pu Tryz.prog 97 #[.slice p n c,most,fv] h (.int .i64 0):=by
 refine w3329 _ _ _ _ _ X0_ok ?_;unfold n3329;have hn:=hl.1;have hb:=hl.2.1;refine t_if (fun e=>by omega) (fun _=>?_);refine t_loop (fun mm vs h'=>h=h'/\∃ i:Nat,vs=[.int .i64 0,.int .i64 i]/\i<=n/\mm=n-i) ⟨rfl,0,rfl,Nat.zero_le _,rfl⟩ ?_;rintro Y mm vs _ hY ⟨rfl,i,rfl,hi,rfl⟩;refine yJ (fun e1=>?_) (fun e1=>?_)
 ·obtain⟨x,a,hx,ha,e2,e3,q,k,qc,e4,hs⟩:=hl.at (i:=i) (by omega);refine gZ ?_;refine t_callv (hf x (List.mem_of_getElem? hx) q k qc hs) ?_;rintro _ _ ⟨rfl,rfl⟩;refine gZ ?_;refine t_cond (fun e=>absurd e (by decide)) (fun _=>?_);refine t_again (hY (n-(i+1)) _ _ (by omega) ⟨rfl,i+1,?_,by omega,rfl⟩);rw[wrap_id (by omega) (by omega)];rfl
 ·refine gH ?_;refine gZ ?_;exact t_ret ⟨rfl,rfl⟩
theorem c3331{h:LH}{p:Option Addr}{n c:Nat}{l:List DDue}{most:Int}{fv:Value}(hl:Sl DDueE 6 h.get p n l)(hm:(l.length:Int)<=most)(hf:∀ x∈l,∀ h1,CV X0 Tryz.prog fv #[.agg #[.int .i64 x.start,.int .i64 x.term.n,.int .i64 x.term.unit,.int .i64 x.done,.int .i64 x.freed,.int .i64 x.asked]] h1 fun r h'=>r=.int .i64 0/\h1.le h') :
  Gr Tryz.prog 99 #[.slice p n c,most,fv] h fun r _=>r=.int .i64 0:=by
 refine w3331 _ _ _ _ _ X0_ok ?_;unfold n3331;have hn:=hl.1;have hb:=hl.2.1;refine t_if (fun e=>by omega) (fun _=>?_);refine t_loop (fun mm vs h'=>h.le h'/\∃ i:Nat,vs=[.int .i64 0,.int .i64 i]/\i<=n/\mm=n-i) ⟨LH.le_refl _,0,rfl,Nat.zero_le _,rfl⟩ ?_;rintro Y mm vs h1 hY ⟨le1,i,rfl,hi,rfl⟩;refine yJ (fun e1=>?_) (fun e1=>?_)
 ·obtain⟨x,a,hx,ha,e2,e3,e4,e5,e6,e7⟩:=(hl.le DDueE.grow le1.1).at (i:=i) (by omega);refine gZ ?_;refine t_callv (hf x (List.mem_of_getElem? hx) h1) ?_;rintro _ h2 ⟨rfl,le2⟩;refine gZ ?_;refine t_cond (fun e=>absurd e (by decide)) (fun _=>?_);refine t_again (hY (n-(i+1)) _ _ (by omega) ⟨LH.le_trans le1 le2,i+1,?_,by omega,rfl⟩);rw[wrap_id (by omega) (by omega)];rfl
 ·refine gH ?_;refine gZ ?_;exact t_ret ⟨le1,rfl⟩
def appV(g:AppC)(x:DApp):Value:=.agg #[.string x.name,.slice g.p1 g.n1 g.c1,.slice g.p2 g.n2 g.c2,.slice g.p3 g.n3 g.c3]
theorem c3324{h:LH}{p:Option Addr}{n c:Nat}{l:List DApp}{most:Int}{fv:Value}{I:Nat->LH->Prop}(hl:Sl DAppE 4 h.get p n l)(hm:(l.length:Int)<=most)(h0:I 0 h)(hrd:∀ i h',I i h'->Rd h.get h'.get)
 (hf:∀ (i:Nat) x g h1,l[i]?=some x->AppR h1.get g x->I i h1->CV X0 Tryz.prog fv #[appV g x] h1 fun r h'=>r=.int .i64 0/\I (i+1) h') :
  FW X0 Tryz.prog 91 #[.slice p n c,most,fv] h fun r h'=>r=.int .i64 0/\I l.length h':=by
 refine w3324 _ _ _ _ _ X0_ok ?_;unfold n3324;have hn:=hl.1;have hb:=hl.2.1;refine t_if (fun e=>by omega) (fun _=>?_);refine t_loop (fun mm vs h'=>∃ i:Nat,I i h'/\vs=[.int .i64 0,.int .i64 i]/\i<=n/\mm=n-i) ⟨0,h0,rfl,Nat.zero_le _,rfl⟩ ?_;rintro Y mm vs h1 hY ⟨i,hI,rfl,hi,rfl⟩;refine yJ (fun e1=>?_) (fun e1=>?_)
 ·obtain⟨x,a,hx,ha,g,e2,e3,e4,e5,ar⟩:=(hl.rd DAppE.grow (hrd i h1 hI)).at (i:=i) (by omega);refine gZ ?_;refine t_loadStr e2 ?_;refine gZ ?_;refine t_callv (hf i x g h1 hx ar hI) ?_;rintro _ h2 ⟨rfl,hI2⟩;refine gZ ?_;refine t_cond (fun e=>absurd e (by decide)) (fun _=>?_);refine t_again (hY (n-(i+1)) _ _ (by omega) ⟨i+1,hI2,?_,by omega,rfl⟩);rw[wrap_id (by omega) (by omega)];rfl
 ·have:i=n:=by omega
  subst this;refine gH ?_;refine gZ ?_;exact t_ret ⟨rfl,by rw[<- hn];exact hI⟩
theorem und1345:Tryz.prog.underlying 165=some (.map 9 4):=by kernel_rfl
theorem inf4b:(Tryz.prog.info? 4).map (fun i=>(i.size,i.bytes,i.zero))=some (1,1,some (.bool false)):=by kernel_rfl
theorem keyStr(s:ByteArray):FKey Tryz.prog 9 (Value.string s):=.inl (.inr (.inr ⟨und9,s,rfl⟩))
theorem strInj(a b:ByteArray)(h:Value.string a=.string b):a=b:=by cases h;rfl
theorem c3325{h:LH}{x:DApp}{g:AppC}{items:Int}{z0 z1:Addr}{m:Nat}{F:ByteArray->Option Value}(hz0:h.get.cell? z0=some (.map (some m)))(hM:HoldsO Value.string h.get m F)(hno:F x.name=none)(hz1:h.get.cell? (z1.add 13)=some (.int .i64 items))(h05:0<=items/\items<=5)(ar:AppR h.get g x)(ok:DAppOk items x) :
  FW X0 Tryz.prog 92 #[appV g x,.pointer (some z0),.pointer (some z1)] h fun r h'=>r=.int .i64 0/\Kp m h h'/\HoldsO Value.string h'.get m (updO F x.name (.bool true)):=by
 refine w3325 _ _ _ _ _ _ _ _ _ _ _ _ X0_ok ?_;unfold n3325;refine t_gr (c3326 ok.name) ?_;rintro _ h1 le1 rfl;refine yF ?_;have k0:=Cells.cell?_le le1.1 hz0;obtain⟨es,cc,hm,M⟩:=hM.le le1.1;refine gZ ?_;refine t_getO x.name rfl strInj und1345 inf4b hm M keyStr (fun v hv=>by rw[hno]at hv;cases hv) fun _=>?_;rw[if_neg Bool.false_ne_true];refine yF ?_;refine gZ ?_;refine t_putO x.name rfl strInj und1345 hm M keyStr fun es' c' M'=>?_;generalize hh2:({ h1 with get:=h1.get.upd m (true,.map es' c') }:LH)=h2;have kp2:Kp m h1 h2:=by rw[<- hh2];exact Kp.upd
 have hm2:h2.get m=some (true,.map es' c'):=by rw[<- hh2];exact Cells.upd_self _ _ _
 clear hh2;have rd2:Rd h.get h2.get:=(Rd.of_le le1.1).trans (kp2.rd ⟨_,_,_,hm⟩);have ar2:=ar.rd rd2;refine gZ ?_;refine t_pu (c3327 ar2.papers (by have:=ok.papers8;omega) (fun y hy=>?_)) ?_
 ·exact CV.mono (cv_fw X0_ok (by rfl) (c3328 (ok.papers y hy))) (by rintro v h' ⟨rfl,rfl⟩;exact⟨rfl,rfl⟩)
 refine gZ ?_;refine t_pu (c3329 ar2.claims (by have:=ok.claims4;omega) (fun y hy q k qc hs=>?_)) ?_
 ·exact CV.mono (cv_fw X0_ok (by rfl) (c3330 (rd2 _ _ hz1) h05 hs (ok.claims y hy))) (by rintro v h' ⟨rfl,rfl⟩;exact⟨rfl,rfl⟩)
 refine gZ ?_;refine t_gr (c3331 ar2.dues (by have:=ok.dues4;omega) (fun y hy h3=>?_)) ?_
 ·exact CV.mono (cv_fw X0_ok (by rfl) (c3332 (ok.dues y hy))) (by rintro v h' ⟨hl,rfl⟩;exact⟨rfl,hl⟩)
 rintro _ h3 le3 rfl;refine gZ ?_;refine t_build und134 inf31 (by decide) (by decide) (cells:=Array.replicate 3 (Value.int .i64 0)) (by kernel_rfl) fun r hr0=>?_;have le4:h3.le _:=LH.upd_le (x:=(true,.cells (Array.replicate 3 (Value.int .i64 0)) 45 (0,0))) hr0;refine gZ ?_;refine t_pu (c1074 (zeros_sl (k:=3) (by decide) rfl)) ?_;rw[firstNZ_zeros];refine gZ ?_;have le24:=LH.le_trans le3 le4;exact t_ret ⟨rfl,(Kp.of_le le1).trans (kp2.trans (Kp.of_le le24)),es',c',le24.1 _ _ hm2,M'⟩
end
section
attribute [local irreducible] T.wp CV FWK
theorem c88{h:LH}(p:Option Addr)(land item:Int):Gr Tryz.prog 83 #[.pointer p,land,item] h fun r h'=>∃ z0 z1 z2,r=.func (.func 115) #[] #[.pointer (some z0),.pointer (some z1),.pointer (some z2)] /\
  h'.get.cell? z0=some (.pointer p)/\h'.get.cell? z1=some (.int .i64 land)/\h'.get.cell? z2=some (.int .i64 item):=by
 refine w88 _ _ _ X0_ok ?_;unfold n88;refine t_new fun r hr=>?_;refine t_new fun r1 hr1=>?_;refine t_new fun r2 hr2=>?_;have l1:h.le _:=LH.upd_le (x:=(true,.cells #[.pointer p] 106 (0,0))) hr;have l2:=LH.upd_le (x:=(true,.cells #[.int .i64 land] 3 (0,0))) hr1;have l3:=LH.upd_le (x:=(true,.cells #[.int .i64 item] 3 (0,0))) hr2;have c1:Cells.cell? (h.get.upd r (true,.cells #[.pointer p] 106 (0,0))) ⟨r,0,none⟩=some (.pointer p):=cell_upd rfl;have c2:Cells.cell? ((h.get.upd r (true,.cells #[.pointer p] 106 (0,0))).upd r1 (true,.cells #[.int .i64 land] 3 (0,0))) ⟨r1,0,none⟩=some (.int .i64 land):=cell_upd rfl;have c3:Cells.cell? (((h.get.upd r (true,.cells #[.pointer p] 106 (0,0))).upd r1 (true,.cells #[.int .i64 land] 3 (0,0))).upd r2 (true,.cells #[.int .i64 item] 3 (0,0))) ⟨r2,0,none⟩=some (.int .i64 item):=cell_upd rfl;exact t_ret ⟨LH.le_trans (LH.le_trans l1 l2) l3,_,_,_,rfl,Cells.cell?_le l3.1 (Cells.cell?_le l2.1 c1),Cells.cell?_le l3.1 c2,c3⟩
def handed(V:Nat->Value)(s:Paper->Bool):List Paper->Nat->List (List Value)
 | [],_=>[]
 | x::l,i=>if s x then [V i]::handed V s l (i+1) else handed V s l (i+1)
theorem handed_len(V:Nat->Value)(s:Paper->Bool):∀ (l:List Paper) (i:Nat),(handed V s l i).length=(l.filter s).length:=by
 intro l
 induction l with
 | nil=>intro i;rfl
 | cons x l ih=>intro i;rw[handed,List.filter_cons];split<;>simp[ih]
theorem handed_get(V:Nat->Value)(s:Paper->Bool):∀ (l:List Paper) (i k:Nat) xs,(handed V s l i)[k]?=some xs->∃ x j,(l.filter s)[k]?=some x/\l[j]?=some x/\xs=[V (i+j)]:=by
 intro l
 induction l with
 | nil=>intro i k xs h;simp[handed]at h
 | cons x l ih =>
  intro i k xs h;rw[handed]at h;rw[List.filter_cons];split at h
  ·rename_i hs;rw[if_pos hs];cases k with
   | zero=>simp at h;exact⟨x,0,rfl,rfl,by simp[<- h]⟩
   | succ k =>
    obtain⟨y,j,h1,h2,h3⟩:=ih (i+1) k xs (by simpa using h);exact⟨y,j+1,by simpa using h1,by simpa using h2,by rw[h3,show i+1+j=i+(j+1) by omega]⟩
  ·rename_i hs;rw[if_neg hs];obtain⟨y,j,h1,h2,h3⟩:=ih (i+1) k xs h;exact⟨y,j+1,h1,by simpa using h2,by rw[h3,show i+1+j=i+(j+1) by omega]⟩
theorem hands99{X:XP}(hX:XOK X){h₀:LH}{d:Nat}{z0 z1 z2:Addr}{land item:Int}{p:Option Addr}{n c:Nat}{ps:List Paper}(hz0:h₀.get.cell? z0=some (.pointer (some ⟨d,0,none⟩)))(hz1:h₀.get.cell? z1=some (.int .i64 land))(hz2:h₀.get.cell? z2=some (.int .i64 item))
 (h5:h₀.get.cell? (Addr.add ⟨d,0,none⟩ 5)=some (.slice p n c))(hs:Sl PaperE 4 h₀.get p n ps) :
  ∃ L,L.length=(ps.filter (showsB land item)).length/\(∀ (i:Nat) xs,L[i]?=some xs->∃ x q m c,(ps.filter (showsB land item))[i]?=some x/\xs=[paperV x q m c]/\Sl IntE 1 h₀.get q m x.items) /\
   Hands X Tryz.prog (.func (.func 115) #[] #[.pointer (some z0),.pointer (some z1),.pointer (some z2)]) h₀ L:=by
 let R:Nat->Value->Prop:=fun i v=>∃ x a q m c,ps[i]?=some x/\p=some a/\v=paperV x q m c/\h₀.get.cell? ((a.add (i*4)).add 0)=some (.int .i64 x.days.first)/\h₀.get.cell? ((a.add (i*4)).add 1)=some (.int .i64 x.days.last)/\h₀.get.cell? ((a.add (i*4)).add 2)=some (.int .i64 x.land)/\h₀.get.cell? ((a.add (i*4)).add 3)=some (.slice q m c)/\Sl IntE 1 h₀.get q m x.items;have hR:∀ i x,ps[i]?=some x->∃ v,R i v:=by
  intro i x hx;obtain⟨a,ha,e1,e2,e3,q,m,k,e4,e5⟩:=hs.2.2 i x hx;exact⟨_,x,a,q,m,k,hx,ha,rfl,e1,e2,e3,e4,e5⟩
 let V:Nat->Value:=fun i=>Classical.epsilon (R i);have hV:∀ i x,ps[i]?=some x->R i (V i):=fun i x hx=>Classical.epsilon_spec (hR i x hx);refine⟨handed V (showsB land item) ps 0,handed_len _ _ _ _,?_,?_⟩
 ·intro i xs hi;obtain⟨x,j,h1,h2,h3⟩:=handed_get _ _ _ _ _ _ hi;rw[Nat.zero_add]at h3;obtain⟨x',a,q,m,k,g1,_,g3,_,_,_,_,g8⟩:=hV j x h2;rw[h2]at g1;cases g1;exact⟨x,q,m,k,h1,by rw[h3,g3],g8⟩
 ·intro y J E _ _ hyield h hle hJ;generalize hL:handed V (showsB land item) ps 0=L at hyield ⊢;refine cv_fw hX (by rfl) (?_:FW X Tryz.prog 115 #[y,.pointer (some z0),.pointer (some z1),.pointer (some z2)] h _);refine w99 _ _ _ _ hX ?_;unfold n99;have hn:=hs.1;have hb:=hs.2.1;have y0:=Cells.cell?_le hle.1 hz0;have y5:=Cells.cell?_le hle.1 h5;refine gL3 y0 ?_;refine gS2 rfl ?_;refine gL1 y5 ?_;refine t_loop (fun mm vs h'=>h₀.le h'/\∃ (j cnt:Nat),vs=[.int .i64 j]/\j<=n/\mm=n-j/\J cnt h'/\cnt<=L.length/\L.drop cnt=handed V (showsB land item) (ps.drop j) j) (n:=n) ⟨hle,0,0,rfl,Nat.zero_le _,by omega,hJ,Nat.zero_le _,by rw[<- hL];rfl⟩ ?_;rintro Y mm vs h₁ hY ⟨le1,j,cnt,rfl,hj,rfl,hJ1,hcl,hdrop⟩;refine yJ (fun e1=>?_) (fun e1=>?_)
  ·obtain⟨x,hx⟩ : ∃ x,ps[j]?=some x:=⟨ps[j]'(by omega),List.getElem?_eq_getElem (by omega)⟩
   obtain⟨x',a,q,m,k,g1,ha,hVj,c0,c1,c2,c3,hit⟩:=hV j x hx;rw[hx]at g1;cases g1;have d0:=Cells.cell?_le le1.1 c0;have d1:=Cells.cell?_le le1.1 c1;have d2:=Cells.cell?_le le1.1 c2;have d3:=Cells.cell?_le le1.1 c3;have w1:=Cells.cell?_le le1.1 hz1;have w2:=Cells.cell?_le le1.1 hz2;rw[drop_of hx,handed]at hdrop;refine gZ ?_;have skip:showsB land item x=false->(T.leaf (.again [.int .i64 (wrap .i64 ((j:Int)+1))])).wp X Tryz.prog (fun l h'=>l.go h' Y (fun vs h'=>T.wp X Tryz.prog (T.popI .i64 vs fun n vs=>T.unNil vs (T.leaf (.ret (.tuple #[])))) (retQ fun _ h'=>h₀.le h'/\(J L.length h'\/E h')) h') (fun vs h'=>T.wp X Tryz.prog (T.popI .i64 vs fun n vs=>T.unNil vs (T.leaf (.ret (.tuple #[])))) (retQ fun _ h'=>h₀.le h'/\(J L.length h'\/E h')) h') (fun _ _ h'=>T.wp X Tryz.prog .fail (retQ fun _ h'=>h₀.le h'/\(J L.length h'\/E h')) h')) h₁:=by
    intro hno;rw[if_neg (by rw[hno];simp)]at hdrop;refine t_again (hY (n-(j+1)) _ _ (by omega) ⟨le1,j+1,cnt,?_,by omega,rfl,hJ1,hcl,hdrop⟩);rw[wrap_id (by omega) (by omega)];rfl
   refine t_cond (fun e2=>?_) (fun e2=>?_)
   ·refine gZ ?_;refine t_pu (c100 (hit.le IntE.grow le1.1) item) ?_;refine yI (fun e3=>?_) (fun e3=>?_)
    ·have hsh:showsB land item x=true:=by unfold showsB;rw[e2,e3];rfl
     rw[if_pos hsh]at hdrop;have hget:L[cnt]?=some [V j]:=by
      have:(L.drop cnt)[0]?=some [V j]:=by rw[hdrop];rfl
      simpa using this
     have hlt:cnt<L.length:=(List.getElem?_eq_some_iff.1 hget).1;have hcv:=hyield cnt h₁ [V j] le1 hget hJ1;rw[hVj]at hcv;refine t_callv hcv ?_;rintro b h₂ ⟨le2,⟨rfl,hJ2⟩|⟨rfl,hE⟩⟩
     ·refine yF ?_;refine t_again (hY (n-(j+1)) _ _ (by omega) ⟨le2,j+1,cnt+1,?_,by omega,rfl,hJ2,by omega,?_⟩)
      ·rw[wrap_id (by omega) (by omega)];rfl
      ·rw[<- List.drop_drop,hdrop];rfl
     ·refine yT ?_;refine gZ ?_;exact t_ret ⟨le2,.inr hE⟩
    ·exact skip (by unfold showsB;rw[e2,e3];rfl)
   ·exact skip (by unfold showsB;rw[e2];rfl)
  ·refine gZ ?_;refine t_ret ⟨le1,.inl ?_⟩;rw[List.drop_eq_nil_of_le (by omega:ps.length<=j),handed]at hdrop;have:L.length<=cnt:=List.drop_eq_nil_iff.1 hdrop;obtain rfl:cnt=L.length:=by omega
   exact hJ1
end
section
attribute [local irreducible] T.wp CV FWK
theorem g30:Tryz.prog.eqGuardType Tryz.prog.depth 28=false:=by kernel_rfl
theorem c60{h:LH}{d m:Nat}{f:FileC}{u:UseFile}(k:Desk h.get d m f u)(hnum:numbersF u=0)(land item day:Int)(hd:0<=day/\day<=2000) :
  De 49 #[.pointer (some ⟨d,0,none⟩),.int .i64 land,.int .i64 item,.int .i64 day] h d m f u fun r _=>r=.int .i64 (safe u land item day):=by
 refine w60 _ _ _ _ X0_ok ?_;unfold n60;refine t_de (c55 k (num_ok hnum).2.2.2 day hd) ?_;rintro _ h₁ mv k1 rfl;obtain⟨f0,f1,f2,f3,f4,f5,f6⟩:=k1.file;refine gZ ?_;refine t_pu (c81 _ _ _) ?_;refine yI (fun e=>?_) (fun e=>?_)
 ·exact t_ret ⟨mv,k1,by rw[safe,if_pos e]⟩
 refine t_gr (c88 _ _ _) ?_;rintro _ h₂ le2 ⟨z0,z1,z2,rfl,hz0,hz1,hz2⟩;have k2:=k1.le le2.1;obtain⟨L,hL1,hL2,hH⟩:=hands99 X0_ok hz0 hz1 hz2 k2.file.f5 k2.rep.papers;refine t_each (LH.le_refl h₂) hH (fun i vs h'=>∃ out,vs=[.int .i64 0,.int .i64 out]/\safe u land item day=safeGo (window u day) ((shown u land item).drop i) out) ⟨2,rfl,by rw[safe,if_neg (by rw[e];simp)];rfl⟩ ?_ ?_
 ·rintro vs h' hle ⟨out,rfl,hc⟩;rw[List.drop_eq_nil_of_le (by rw[hL1];exact Nat.le_refl _),safeGo]at hc;refine gZ ?_;exact t_ret ⟨mv.trans (Mv.of_le (LH.le_trans le2 hle)),k2.le hle.1,by rw[hc]⟩
 ·rintro i xs vs h' hi hle ⟨out,rfl,hc⟩ Y hY;obtain⟨x,q,n,c,hx,rfl,hit⟩:=hL2 i xs hi;have hx':(shown u land item)[i]?=some x:=hx;rw[drop_of hx',safeGo]at hc;unfold paperV;refine gZ ?_;refine t_eq2 two30 g30 ?_;refine yI (fun e2=>?_) (fun e2=>?_)
  ·refine t_retnE hle ?_;have e2':insideB (window u day) x.days=true:=e2;rw[if_pos e2']at hc;refine gZ ?_;exact t_ret ⟨mv.trans (Mv.of_le (LH.le_trans le2 hle)),k2.le hle.1,by rw[hc]⟩
  ·have e2':insideB (window u day) x.days=false:=e2;rw[if_neg (by rw[e2'];simp)]at hc;refine t_cond (fun e3=>?_) (fun e3=>?_)
   ·have e3':meetsB (window u day) x.days=true:=e3;rw[if_pos e3']at hc;exact t_againE hle (hY _ _ hle ⟨0,rfl,hc⟩)
   ·have e3':meetsB (window u day) x.days=false:=e3;rw[if_neg (by rw[e3'];simp)]at hc;exact t_againE hle (hY _ _ hle ⟨out,rfl,hc⟩)
def safeR(u:UseFile)(land item day:Int):Value :=
 if openF u [landQ u land,itemQ u item,dayQ day]≠0 then .tuple #[.int .i64 0,.int .i64 (openF u [landQ u land,itemQ u item,dayQ day])] else .tuple #[.int .i64 (safe u land item day),.int .i64 0]
theorem c19{h:LH}{f:FileC}{u:UseFile}(hp:Parts h.get)(hu:FileR h.get f u)(land item day:Int):Gr Tryz.prog 18 #[fileV f u,land,item,day] h fun r _=>r=safeR u land item day:=by
 refine w19 _ _ _ _ _ _ _ _ _ _ _ _ _ _ _ _ X0_ok ?_;unfold n19;refine t_gr (c58 u land) ?_;rintro v0 h₁ le1 ⟨q0,a0⟩;refine gZ ?_;refine t_gr (c59 u item) ?_;rintro v1 h₂ le2 ⟨q1,a1⟩;refine gZ ?_;refine t_gr (c54 u day) ?_;rintro v2 h₃ le3 ⟨q2,a2⟩;refine gZ ?_;refine asks3 q0 (a0.le (LH.le_trans le2 le3)) q1 (a1.le le3) q2 a2 fun r h₄ le4 hs=>?_;refine gZ ?_;have le14:=LH.le_trans (LH.le_trans (LH.le_trans le1 le2) le3) le4;refine t_call (c53 (f:=f) (hp.le le14.1) (hu.le le14.1) hs) ?_;rintro v h₅ ⟨le5,⟨hne,rfl⟩|⟨h0,d,m,rfl,hd,hm,k⟩⟩
 ·refine gZ ?_;refine t_cond (fun _=>?_) (fun e=>absurd (by simpa using e) hne);refine t_ret ⟨LH.le_trans le14 le5,?_⟩;show _=safeR u land item day;rw[safeR,if_pos hne]
 ·refine yF ?_;have hq:=dayQ_zero (open_zero h0 _ (by simp;exact .inr (.inr rfl)));refine t_de (c60 k (open_num h0).1 land item day hq) ?_;rintro _ h₆ mv k6 rfl;refine gZ ?_;refine t_ret ⟨LH.le_trans le14 (Mv.le_of le5 hm mv),?_⟩;show _=safeR u land item day;rw[safeR,if_neg (by simpa using h0)]
def weakR(u:UseFile)(land item:Int):Value :=
 if openF u [landQ u land,itemQ u item]≠0 then .tuple #[.int .i64 0,.int .i64 (openF u [landQ u land,itemQ u item])] else .tuple #[.int .i64 (weak u land item),.int .i64 0]
theorem c21{h:LH}{f:FileC}{u:UseFile}(hp:Parts h.get)(hu:FileR h.get f u)(land item:Int):Gr Tryz.prog 19 #[fileV f u,land,item] h fun r _=>r=weakR u land item:=by
 refine w21 _ _ _ _ _ _ _ _ _ _ _ _ _ _ _ X0_ok ?_;unfold n21;refine t_gr (c58 u land) ?_;rintro v0 h₁ le1 ⟨q0,a0⟩;refine gZ ?_;refine t_gr (c59 u item) ?_;rintro v1 h₂ le2 ⟨q1,a1⟩;refine gZ ?_;refine asks2 q0 (a0.le le2) q1 a1 fun r h₄ le4 hs=>?_;refine gZ ?_;have le14:=LH.le_trans (LH.le_trans le1 le2) le4;refine t_call (c53 (f:=f) (hp.le le14.1) (hu.le le14.1) hs) ?_;rintro v h₅ ⟨le5,⟨hne,rfl⟩|⟨h0,d,m,rfl,hd,hm,k⟩⟩
 ·refine gZ ?_;refine t_cond (fun _=>?_) (fun e=>absurd (by simpa using e) hne);refine t_ret ⟨LH.le_trans le14 le5,?_⟩;show _=weakR u land item;rw[weakR,if_pos hne]
 ·refine yF ?_;have hnum:=(open_num h0).1;have hfrom:=(num_ok hnum).2.2.1;refine t_loop (fun mm vs h'=>Mv m h₅ h'/\Desk h'.get d m f u/\∃ x:Int,vs=[.int .i64 0,.int .i64 0,.int .i64 x]/\0<=x/\x<=2001/\mm=(2001-x).toNat/\weak u land item=weakGo (fun d=>decide (safe u land item d≠1)) (2001-x).toNat x)
   ⟨Mv.refl,k,u.from_,rfl,by omega,by omega,rfl,rfl⟩ ?_
  rintro Y mm vs h₆ hY ⟨mv,k6,x,rfl,hx0,hx1,rfl,hc⟩;refine yJ (fun e1=>?_) (fun e1=>?_)
  ·refine t_de (c60 k6 hnum land item x ⟨hx0,e1⟩) ?_;rintro _ h₇ mv7 k7 rfl;refine gZ ?_;obtain⟨y,hy⟩ : ∃ y,(2001-x).toNat=y+1:=⟨(2000-x).toNat,by omega⟩
   have hy':(2001-(x+1)).toNat=y:=by omega
   rw[hy,weakGo]at hc;refine t_cond (fun e2=>?_) (fun e2=>?_)
   ·refine gZ ?_;refine t_ret ⟨LH.le_trans le14 (Mv.le_of le5 hm (mv.trans mv7)),?_⟩;show _=weakR u land item;rw[weakR,if_neg (by simpa using h0),hc,if_pos (by simpa using e2)]
   ·rw[if_neg (by simpa using e2)]at hc;refine t_again (hY (2001-(x+1)).toNat _ _ (by omega) ⟨mv.trans mv7,k7,x+1,?_,by omega,by omega,rfl,by rw[hy'];exact hc⟩);rw[wrap_id (by omega) (by omega)]
  ·refine gZ ?_;have h01:(2001-x).toNat=0:=by omega
   rw[h01,weakGo]at hc;refine t_ret ⟨LH.le_trans le14 (Mv.le_of le5 hm mv),?_⟩;show _=weakR u land item;rw[weakR,if_neg (by simpa using h0),hc]
end
section
attribute [local irreducible] T.wp CV FWK
def ReqEnc(h₀:Cells)(x:Request)(ws:List Value):Prop:=∃ q m c,ws=[.int .i64 x.day,.int .i64 x.land,.slice q m c]/\Sl IntE 1 h₀ q m x.items
theorem ReqEnc.len{h₀:Cells}:∀ x ws,ReqEnc h₀ x ws->ws.length=3:=by rintro x _ ⟨q,m,c,rfl,_⟩;rfl
theorem ReqEnc.e{h₀ h':Cells}(hr:Rd h₀ h'):∀ a x ws,ReqEnc h₀ x ws->(∀ (j:Nat) w,ws[j]?=some w->h'.cell? (a.add j)=some w)->RequestE h' a x:=by
 rintro a x _ ⟨q,m,c,rfl,hs⟩ hc;exact⟨hc 0 _ rfl,hc 1 _ rfl,q,m,c,hc 2 _ rfl,hs.rd IntE.grow hr⟩
theorem c101{h:LH}{d m:Nat}{f:FileC}{u:UseFile}(k:Desk h.get d m f u)(hck:checkF u=0)(land item day:Int) :
  Gr Tryz.prog 116 #[.pointer (some ⟨d,0,none⟩),land,item,day] h fun r h'=>∃ p n c,r=.slice p n c/\Sl RequestE 3 h'.get p n (against u land item day):=by
 refine w101 _ _ _ _ X0_ok ?_;unfold n101;obtain⟨f0,f1,f2,f3,f4,f5,f6⟩:=k.file;have hlen:=(check_requests hck).1;have hn6:=k.rep.requests.1;refine gZ ?_;refine t_loop (fun mm vs h'=>h.le h'/\∃ (i:Nat) (p:Option Addr) (n c:Nat) (rs:List Request),vs=[.slice p n c,.int .i64 i]/\i<=f.n6/\mm=f.n6-i/\Growing (ReqEnc h.get) 33 3 h.get h'.get p n c rs/\rs.length<=i/\against u land item day=rs++(u.requests.drop i).filter (agB land item day))
  ⟨LH.le_refl _,0,none,0,0,[],rfl,Nat.zero_le _,rfl,Growing.nil,Nat.le_refl _,rfl⟩ ?_
 rintro Y mm vs h₁ hY ⟨hle,i,p,n,c,rs,rfl,hi,rfl,g,hrl,hc⟩;refine yJ (fun e1=>?_) (fun e1=>?_)
 ·obtain⟨x,a,hx,ha,e2,e3,q,mq,cq,e4,e5⟩:=k.rep.requests.at (i:=i) (by omega);have e2:=Cells.cell?_le hle.1 e2;have e3:=Cells.cell?_le hle.1 e3;have e4:=Cells.cell?_le hle.1 e4;rw[drop_of hx,List.filter_cons]at hc;have skip:agB land item day x=false->Y [.slice p n c,.int .i64 (wrap .i64 ((i:Int)+1))] h₁:=by
   intro hno;rw[if_neg (by rw[hno];simp)]at hc;refine hY (f.n6-(i+1)) _ _ (by omega) ⟨hle,i+1,p,n,c,rs,?_,by omega,rfl,g,by omega,hc⟩;rw[wrap_id (by omega) (by omega)];rfl
  refine yI (fun b1=>?_) (fun b1=>?_)
  ·refine t_if (fun b2=>?_) (fun b2=>?_)
   ·refine t_pu (c100 (e5.le IntE.grow hle.1) item) ?_;refine yI (fun b3=>?_) (fun b3=>?_)
    ·have hag:agB land item day x=true:=by unfold agB;rw[b1,b3];simp[b2]
     rw[if_pos hag]at hc;refine t_build und24 inf64 (by decide) (by decide) (cells:=#[.int .i64 x.day,.int .i64 x.land,.slice q mq cq]) (by kernel_rfl) fun r hr=>?_;have le1:h₁.le _:=LH.upd_le (x:=(true,.cells #[.int .i64 x.day,.int .i64 x.land,.slice q mq cq] 33 (0,0))) hr;have hng:=g.count ReqEnc.len (by omega);refine gZ ?_;refine t_grow (x:=x) (ws:=[.int .i64 x.day,.int .i64 x.land,.slice q mq cq]) rfl rfl und24 und24 inf64 rfl (by omega) (by omega) (g.le le1.1) (LH.le_trans hle le1) ⟨q,mq,cq,rfl,e5⟩ rfl ?_ ?_ ?_
     ·intro j w hj;rw[add_plain,Nat.zero_add];exact cell_upd (by simpa using hj)
     ·intro w hw;simp at hw;rcases hw with rfl|rfl|rfl<;>rfl
     ·intro p' c' h₂ hle2 _ g2;refine gZ ?_;refine t_again (hY (f.n6-(i+1)) _ _ (by omega) ⟨hle2,i+1,p',n+1,c',rs++[x],?_,by omega,rfl,g2,by simp;omega,by rw[hc];simp⟩);rw[wrap_id (by omega) (by omega)];rfl
    ·exact t_again (skip (by unfold agB;rw[b1,b3];simp))
   ·exact t_again (skip (by unfold agB;rw[b1];simp[b2]))
  ·exact t_again (skip (by unfold agB;rw[b1];rfl))
 ·refine gZ ?_;rw[List.drop_eq_nil_of_le (by omega)]at hc;simp at hc;refine t_ret ⟨hle,p,n,c,rfl,?_⟩;rw[hc];exact g.sl ReqEnc.len (by omega) (ReqEnc.e (Rd.of_le hle.1)) (by omega)
theorem or_bits{a k:Nat}(ha:a<2^32)(hk:k<32):wrap .i64 (((BitVec.ofInt 64 (a:Int) ||| BitVec.ofInt 64 (wrap .i64 (1*2^min (k:Int).toNat 64))).toNat:Nat):Int)=((a ||| 2^k:Nat):Int):=by
 have hm:min (k:Int).toNat 64=k:=by simp;omega
 have hp:(2:Nat)^k<2^32:=Nat.pow_lt_pow_right (by omega) hk;have hp':(1*2^k:Int)=((2^k:Nat):Int):=by simp
 rw[hm,hp'];generalize hq:(2:Nat)^k=q at hp;have hw:wrap .i64 ((q:Nat):Int)=(q:Int):=wrap_id (by omega) (by omega);rw[hw];have h1:(BitVec.ofInt 64 (a:Int)).toNat=a:=by rw[BitVec.toNat_ofInt];omega
 have h2:(BitVec.ofInt 64 (q:Int)).toNat=q:=by rw[BitVec.toNat_ofInt];omega
 rw[BitVec.toNat_or,h1,h2];have h3:a ||| q<2^32:=Nat.or_lt_two_pow ha hp;exact wrap_id (by omega) (by omega)
theorem c107{h:LH}{d m:Nat}{f:FileC}{u:UseFile}(k:Desk h.get d m f u)(hck:checkF u=0){p:Option Addr}{n c:Nat}{l:List Request}(hl:Sl RequestE 3 h.get p n l)(hl4:l.length<=4)(hdays:∀ r∈l,0<=r.day/\r.day<=2000)(day:Int) :
  De 141 #[.pointer (some ⟨d,0,none⟩),.slice p n c,.int .i64 day] h d m f u fun r _=>r=.int .i64 (meets u l day):=by
 refine w107 _ _ _ _ _ X0_ok ?_;unfold n107;have hn:=hl.1;refine t_loop (fun mm vs h'=>Mv m h h'/\Desk h'.get d m f u/\∃ (i acc:Nat),vs=[.int .i64 acc,.int .i64 i]/\i<=n/\mm=n-i/\acc<2^32/\meets u l day=meetsGo u day (l.drop i) i acc)
  ⟨Mv.refl,k,0,0,rfl,Nat.zero_le _,rfl,by omega,rfl⟩ ?_
 rintro Y mm vs h₁ hY ⟨mv,k1,i,acc,rfl,hi,rfl,hacc,hc⟩;refine yJ (fun e1=>?_) (fun e1=>?_)
 ·obtain⟨x,a,hx,ha,e2,e3,q,mq,cq,e4,e5⟩:=(hl.rd RequestE.grow (mv.rd k.isMap)).at (i:=i) (by omega);rw[drop_of hx,meetsGo]at hc;refine gZ ?_;have hxd:=hdays x (List.mem_of_getElem? hx);refine t_de (c55 k1 (num_ok (check_num hck)).2.2.2 x.day hxd) ?_;rintro _ h₂ mv2 k2 rfl;refine gZ ?_;refine t_pu (c81 _ _ _) ?_;refine yI (fun b=>?_) (fun b=>?_)
  ·rw[if_pos b]at hc;refine gZ ?_;rw[or_bits hacc (by omega)];refine t_again (hY (n-(i+1)) _ _ (by omega) ⟨mv.trans mv2,k2,i+1,acc ||| 2^i,?_,by omega,rfl,Nat.or_lt_two_pow hacc (Nat.pow_lt_pow_right (by omega) (by omega)),hc⟩);rw[wrap_id (by omega) (by omega)];rfl
  ·rw[if_neg (by rw[b];simp)]at hc;refine t_again (hY (n-(i+1)) _ _ (by omega) ⟨mv.trans mv2,k2,i+1,acc,?_,by omega,rfl,hacc,hc⟩);rw[wrap_id (by omega) (by omega)];rfl
 ·refine gZ ?_;rw[List.drop_eq_nil_of_le (by omega),meetsGo]at hc;exact t_ret ⟨mv,k1,by rw[hc]⟩
end
section
attribute [local irreducible] T.wp CV FWK
def MapIs(h:Cells)(a:Nat)(R:Nat->Prop):Prop:=∃ es,MapAt h a es/\(∀ e∈es.toList,∃ n:Nat,e.key=.int .i64 n/\e.val=.bool true/\R n)/\∀ n,R n->∃ e∈es.toList,e.key=.int .i64 (n:Int)
theorem MapIs.isMap{h:Cells}{a:Nat}{R:Nat->Prop}(m:MapIs h a R):∃ es c,h a=some (true,.map es c):=by obtain⟨es,⟨c,h1⟩,_⟩:=m;exact⟨es,c,h1⟩
theorem MapIs.mv{m a:Nat}{h h':LH}{R:Nat->Prop}(hne:a≠m)(mv:Mv m h h')(hm:MapIs h.get a R):MapIs h'.get a R:=by
 obtain⟨es,⟨c,h1⟩,h2⟩:=hm;exact⟨es,⟨c,mv.keep _ _ hne h1⟩,h2⟩
theorem MapIs.congr{h:Cells}{a:Nat}{R R':Nat->Prop}(hm:MapIs h a R)(hR:∀ n,R n↔R' n):MapIs h a R':=by
 obtain⟨es,h1,h2,h3⟩:=hm;refine⟨es,h1,fun e he=>?_,fun n hn=>h3 n ((hR n).2 hn)⟩;obtain⟨n,a,b,c⟩:=h2 e he;exact⟨n,a,b,(hR n).1 c⟩
theorem MapIs.keys{h:Cells}{a:Nat}{es:Array MapEntry}{R:Nat->Prop}(h2:∀ e∈es.toList,∃ n:Nat,e.key=.int .i64 n/\e.val=.bool true/\R n):∀ e∈es.toList,IsKey Tryz.prog 3 e.key:=fun e he=>by
 obtain⟨n,h,_⟩:=h2 e he;exact .inl ⟨i64_3,n,h⟩
theorem t_lookSet{X:XP}{Q:Leaf->LH->Prop}{h:LH}{K:Value->T}{a:Nat}{R:Nat->Prop}(hm:MapIs h.get a R){n:Nat}(h1:R n->(K (.bool true)).wp X Tryz.prog Q h)(h2:¬ R n->(K (.bool false)).wp X Tryz.prog Q h):(T.sem false (Instr.lookup 215 (.map (some a)) (.int .i64 n) false) K).wp X Tryz.prog Q h:=by
 obtain⟨es,hat,e1,e2⟩:=hm;refine t_lookup und138 inf4 hat (.inl ⟨i64_3,_,rfl⟩) (MapIs.keys (h:=h.get) (a:=a) e1) (fun e he hk=>?_) fun hno=>?_
 ·obtain⟨n',g1,g2,g3⟩:=e1 e he;rw[hk]at g1;have:n=n':=by simp at g1;omega
  subst this;rw[g2];exact h1 g3
 ·refine h2 fun hr=>?_;obtain⟨e,he,hk⟩:=e2 n hr;exact hno e he hk
theorem t_addSet{X:XP}{Q:Leaf->LH->Prop}{h:LH}{K:Value->T}{a:Nat}{R:Nat->Prop}(hm:MapIs h.get a R){n:Nat}(hk:∀ es c,MapIs (h.get.upd a (true,.map es c)) a (fun x=>R x\/x=n)->(K undef).wp X Tryz.prog Q { h with get:=h.get.upd a (true,.map es c) }) :
  (T.sem false (Sem.bind (Instr.mapUpdate 215 (.map (some a)) (.int .i64 n) (.bool true)) fun _=>pure (.tuple #[])) K).wp X Tryz.prog Q h:=by
 obtain⟨es,hat,e1,e2⟩:=hm;refine t_mapUpdate und138 hat (.inl ⟨i64_3,_,rfl⟩) (MapIs.keys (h:=h.get) (a:=a) e1) fun es' c g1 g2 g3=>hk es' c ⟨es',⟨c,Cells.upd_self _ _ _⟩,fun e he=>?_,fun x hx=>?_⟩
 ·rcases g1 e he with⟨k1,k2⟩|k1
  ·exact⟨n,k1,k2,.inr rfl⟩
  ·obtain⟨n',a,b,c⟩:=e1 e k1;exact⟨n',a,b,.inl c⟩
 ·rcases hx with hx|rfl
  ·obtain⟨e,he,hke⟩:=e2 x hx;obtain⟨e',he',hk'⟩:=g3 e he;exact⟨e',he',hk'.trans hke⟩
  ·exact g2
theorem rd_updMap{h:Cells}{a:Nat}{es':Array MapEntry}{c:Nat}(hm:∃ es c,h a=some (true,.map es c)):Rd h (h.upd a (true,.map es' c)):=by
 intro x v hc;have hne:x.block≠a:=by
  intro e;obtain⟨es,c,hm⟩:=hm;unfold Cells.cell? at hc;rw[e,hm]at hc;cases hc
 unfold Cells.cell? at hc ⊢;rw[Cells.upd_ne _ _ hne];exact hc
theorem desk_other{h:Cells}{d m a:Nat}{f:FileC}{u:UseFile}(k:Desk h d m f u)(hne:a≠m)(hm:∃ es c,h a=some (true,.map es c)){es':Array MapEntry}{c:Nat}:Desk (h.upd a (true,.map es' c)) d m f u:=by
 have hr:=rd_updMap (es':=es') (c:=c) hm;refine⟨k.file.rd hr,k.rep.rd hr,fun j hj=>hr _ _ (k.counts j hj),hr _ _ k.mapp,?_⟩;obtain⟨es,c',h1,h2⟩:=k.map;exact⟨es,c',by rw[Cells.upd_ne _ _ (Ne.symm hne)];exact h1,h2⟩
theorem mv_other{m a:Nat}{h h':LH}(mv:Mv m h h')(hno:h.get a=none)(hne:a≠m){es:Array MapEntry}{c:Nat}:Mv m h { h' with get:=h'.get.upd a (true,.map es c) }:=by
 refine⟨fun r x hr hx=>?_,fun es c hm=>?_,mv.same⟩
 ·have:r≠a:=by rintro rfl;rw[hno]at hx;cases hx
  show Cells.upd _ _ _ r=_;rw[Cells.upd_ne _ _ this];exact mv.keep r x hr hx
 ·obtain⟨es',c',h1⟩:=mv.isMap es c hm;exact⟨es',c',by show Cells.upd _ _ _ m=_;rw[Cells.upd_ne _ _ (Ne.symm hne)];exact h1⟩
section
variable {X:XP} {Q:Leaf->LH->Prop} {h h':LH} {d m:Nat} {f:FileC} {u:UseFile} {o:Option (Nat×(Nat->Prop))}
structure St(h:LH)(d m:Nat)(f:FileC)(u:UseFile)(h':LH)(o:Option (Nat×(Nat->Prop))):Prop where
 mv:Mv m h h'
 desk:Desk h'.get d m f u
 made:∀ a R,o=some (a,R)->MapIs h'.get a R/\a≠m/\h.get a=none
theorem s_from(s:St h d m f u h' o){k:Int->T}(hk:(k u.from_).wp X Tryz.prog Q h'):(T.loadI .i64 (Addr.add (Addr.add (Addr.add ⟨d,0,none⟩ 0) 0) 2) k).wp X Tryz.prog Q h':=gL0 s.desk.file.f2 hk
theorem s_make(hm:∃ es c,h.get m=some (true,.map es c))(s:St h d m f u h' none){k:Value->T}(hk:∀ a h'',St h d m f u h'' (some (a,fun _=>False))->(k (.map (some a))).wp X Tryz.prog Q h''):(T.sem false (Instr.makeMap 215 none) k).wp X Tryz.prog Q h':=by
 refine t_makeMap fun a ha=>hk a _ ?_;have le1:h'.le _:=LH.upd_le (x:=(true,.map #[] 0)) ha;have hno:h.get a=none:=by
  cases hx:h.get a with
  | none=>rfl
  | some x =>
   by_cases e:a=m
   ·subst e;obtain⟨es,c,hm⟩:=hm;obtain⟨es',c',h1⟩:=s.mv.isMap es c hm;rw[h1]at ha;cases ha
   ·rw[s.mv.keep a x e hx]at ha;cases ha
 have hne:a≠m:=by rintro rfl;obtain⟨es,c,hm⟩:=hm;rw[hm]at hno;cases hno
 refine⟨s.mv.trans (Mv.of_le le1),s.desk.le le1.1,fun a' R e=>?_⟩;cases e;exact⟨⟨#[],⟨0,Cells.upd_self _ _ _⟩,fun e he=>by simp at he,fun n hn=>hn.elim⟩,hne,hno⟩
theorem s_call(hck:checkF u=0)(hm:∃ es c,h.get m=some (true,.map es c))(s:St h d m f u h' o){p:Option Addr}{n c:Nat}{l:List Request}(hl:Sl RequestE 3 h.get p n l)(hl4:l.length<=4)(hdays:∀ r∈l,0<=r.day/\r.day<=2000){day:Int}{k:Value->T}(hk:∀ h'',St h d m f u h'' o->(k (.int .i64 (meets u l day))).wp X Tryz.prog Q h''):(T.call false 141 #[.pointer (some ⟨d,0,none⟩),.slice p n c,.int .i64 day] k).wp X Tryz.prog Q h':=by
 refine t_de (c107 s.desk hck (hl.rd RequestE.grow (s.mv.rd hm)) hl4 hdays day) ?_;rintro _ h'' mv k2 rfl;refine hk h'' ⟨s.mv.trans mv,k2,fun a R e=>?_⟩;obtain⟨a1,a2,a3⟩:=s.made a R e;exact⟨a1.mv a2 mv,a2,a3⟩
theorem s_add{a:Nat}{R:Nat->Prop}(s:St h d m f u h' (some (a,R))){n:Nat}{K:Value->T}(hk:∀ h'',St h d m f u h'' (some (a,fun x=>R x\/x=n))->(K undef).wp X Tryz.prog Q h'') :
  (T.sem false (Sem.bind (Instr.mapUpdate 215 (.map (some a)) (.int .i64 n) (.bool true)) fun _=>pure (.tuple #[])) K).wp X Tryz.prog Q h':=by
 obtain⟨a1,a2,a3⟩:=s.made a R rfl;refine t_addSet a1 fun es c hm=>hk _ ⟨mv_other s.mv a3 a2,desk_other s.desk a2 a1.isMap,fun a' R' e=>?_⟩;cases e;exact⟨hm,a2,a3⟩
end
theorem meets_lt(u:UseFile)(day:Int):∀ (l:List Request) (k acc:Nat),acc<2^(k+l.length)->meetsGo u day l k acc<2^(k+l.length):=by
 intro l
 induction l with
 | nil=>intro k acc h;exact h
 | cons r l ih =>
  intro k acc h;rw[meetsGo];have e:k+(r::l).length=k+1+l.length:=by simp;omega
  rw[e]at h ⊢;refine ih _ _ ?_;split
  ·exact Nat.or_lt_two_pow h (Nat.pow_lt_pow_right (by omega) (by omega))
  ·exact h
theorem meets_lt'(u:UseFile)(l:List Request)(day:Int):meets u l day<2^l.length:=by
 have:=meets_lt u day l 0 0 (Nat.two_pow_pos _);rw[Nat.zero_add]at this;exact this
theorem or_small{a b:Nat}(ha:a<16)(hb:b<16):wrap .i64 (((BitVec.ofInt 64 (a:Int) ||| BitVec.ofInt 64 (b:Int)).toNat:Nat):Int)=((a ||| b:Nat):Int):=by
 have h1:(BitVec.ofInt 64 (a:Int)).toNat=a:=by rw[BitVec.toNat_ofInt];omega
 have h2:(BitVec.ofInt 64 (b:Int)).toNat=b:=by rw[BitVec.toNat_ofInt];omega
 rw[BitVec.toNat_or,h1,h2];have h3:a ||| b<2^4:=Nat.or_lt_two_pow (by omega) (by omega);exact wrap_id (by omega) (by omega)
theorem c102{h:LH}{d m:Nat}{f:FileC}{u:UseFile}(k:Desk h.get d m f u)(hck:checkF u=0){p:Option Addr}{n c:Nat}{l:List Request}(hl:Sl RequestE 3 h.get p n l)(hl4:l.length<=4)(hdays:∀ r∈l,0<=r.day/\r.day<=2000)(land item:Int) :
  De 117 #[.pointer (some ⟨d,0,none⟩),.int .i64 land,.int .i64 item,.slice p n c] h d m f u fun r _=>r=.bool (!can u land item l):=by
 refine w102 _ _ _ _ _ _ X0_ok ?_;unfold n102;have hn:=hl.1;have hm:=k.isMap;refine gZ ?_;refine t_blk (fun vs h'=>∃ a,vs=[.map (some a)]/\St h d m f u h' (some (a,fun x=>False\/x=meets u l u.from_))) ?_ ?_
 ·have s0:St h d m f u h none:=⟨Mv.refl,k,fun a R e=>by cases e⟩
  refine gZ ?_
  repeat' (first
   | refine t_both ?_ ?_
   | (refine s_make hm (by assumption) fun a hx s=>?_)
   | (refine s_call hck hm (by assumption) hl hl4 hdays fun hx s=>?_)
   | (refine s_add (by assumption) fun hx s=>?_)
   | (refine s_from (by assumption) ?_)
   | (with_reducible refine gY ?_)|(with_reducible refine gD ?_)|(with_reducible refine gP ?_)|((with_reducible apply gT);first|exact rfl|exact True.intro)|((with_reducible apply gS2);exact rfl)
   | (refine t_again ⟨_,rfl,by assumption⟩))
 ·rintro vs h₁ ⟨a0,rfl,s1⟩;refine gZ ?_;obtain⟨am,ane,ano⟩:=s1.made a0 _ rfl;refine t_gr (c88 _ _ _) ?_;rintro _ h₂ le2 ⟨z0,z1,z2,rfl,hz0,hz1,hz2⟩;have k2:=s1.desk.le le2.1;have hm2:=k2.isMap;let h₀:LH:={ h₂ with get:=fun b=>if b=m then none else h₂.get b }
  have le0:h₀.le h₂:=⟨fun b x hb=>by
   show h₂.get b=some x;have hb':(if b=m then none else h₂.get b)=some x:=hb;split at hb'
   ·cases hb'
   ·exact hb',rfl,rfl,rfl⟩
  have rd0:Rd h₂.get h₀.get:=by
   intro x v hc;have hne:x.block≠m:=by
    intro e;obtain⟨es,c,hm⟩:=hm2;unfold Cells.cell? at hc;rw[e,hm]at hc;cases hc
   unfold Cells.cell? at hc ⊢;have e0:h₀.get x.block=h₂.get x.block:=if_neg hne;rw[e0];exact hc
  obtain⟨L,hL1,hL2,hH⟩:=hands99 X0_ok (rd0 _ _ hz0) (rd0 _ _ hz1) (rd0 _ _ hz2) (rd0 _ _ k2.file.f5) (k2.rep.papers.rd PaperE.grow rd0);have mv2:=s1.mv.trans (Mv.of_le (m:=m) le2);have hcan:∀ R,reachL u l (shown u land item) [meets u l u.from_]=reachL u l [] R->can u land item l=R.contains (2^l.length-1):=by
   intro R e;unfold can;rw[e];rfl
  have hpw:(2:Nat)^l.length<=16:=by
   have:(2:Nat)^l.length<=2^4:=Nat.pow_le_pow_right (by omega) hl4;omega
  have hpw1:0<(2:Nat)^l.length:=Nat.two_pow_pos _;have hm1:(1*2^min (n:Int).toNat 64:Int)=((2^l.length:Nat):Int):=by
   have:min (n:Int).toNat 64=l.length:=by rw[hn];simp;omega
   rw[this];simp
  generalize hP:(2:Nat)^l.length=pw at hpw hpw1 hm1;have hall:wrap .i64 (wrap .i64 (1*2^min (n:Int).toNat 64)-1)=((pw-1:Nat):Int):=by
   rw[hm1,wrap_id (n:=(pw:Int)) (by omega) (by omega),wrap_id (by omega) (by omega)];omega
  have hall2:wrap .i64 (((pw-1:Nat):Int)+1)=(pw:Int):=by
   rw[wrap_id (by omega) (by omega)];omega
  simp only[hall,hall2];refine t_each le0 hH (fun i vs h'=>Mv m h h'/\Desk h'.get d m f u/\∃ a R,vs=[.map (some a)]/\a≠m/\MapIs h'.get a (fun x=>x∈R)/\(∀ s∈R,s<pw)/\reachL u l (shown u land item) [meets u l u.from_]=reachL u l ((shown u land item).drop i) R)
   ⟨mv2,k2,a0,[meets u l u.from_],rfl,ane,(am.mv ane (Mv.of_le (m:=m) le2)).congr (fun x=>by simp),by intro s hs;simp at hs;subst hs;rw[<- hP];exact meets_lt' u l _,rfl⟩ ?_ ?_
  ·rintro vs h₃ hle ⟨mv3,k3,a,R,rfl,hne,hmap,hR,hc⟩;rw[List.drop_eq_nil_of_le (by rw[hL1];exact Nat.le_refl _)]at hc;have hcan':=hcan R hc;rw[hP]at hcan';refine gZ ?_;refine t_lookSet hmap (fun hin=>?_) fun hnot=>?_
   ·refine gZ ?_;refine t_ret ⟨mv3,k3,?_⟩;rw[hcan'];have:R.contains (pw-1)=true:=by simpa using hin
    rw[this]
   ·refine gZ ?_;refine t_ret ⟨mv3,k3,?_⟩;rw[hcan'];have:R.contains (pw-1)=false:=by simpa using hnot
    rw[this]
  ·rintro i xs vs h₃ hi hle ⟨mv3,k3,a,R,rfl,hne,hmap,hR,hc⟩ Y hY;obtain⟨x,q,nq,cq,hx,rfl,hit⟩:=hL2 i xs hi;have hx':(shown u land item)[i]?=some x:=hx;have hxp:=(check_papers hck).2 x (List.mem_filter.1 (List.mem_of_getElem? hx')).1;rw[drop_of hx',reachL]at hc;unfold paperV;refine gZ ?_;have hm3:=k3.isMap;refine t_makeMap fun b hb=>?_;refine gZ ?_;have le4:h₃.le _:=LH.upd_le (x:=(true,.map #[] 0)) hb;have hbm:b≠m:=by rintro rfl;obtain⟨es,c,hm3⟩:=hm3;rw[hm3]at hb;cases hb
   have hba:b≠a:=by rintro rfl;obtain⟨es,c,ha⟩:=hmap.isMap;rw[ha]at hb;cases hb
   -- the days of the paper
   refine t_loop (fun mm vs h'=>Mv m h₃ h'/\h₀.le h'/\Desk h'.get d m f u/\∃ dy:Int,vs=[.int .i64 dy]/\x.days.first<=dy/\dy<=x.days.last+1/\mm=(x.days.last+1-dy).toNat/\MapIs h'.get b (fun y=>∃ s∈R,∃ e:Int,x.days.first<=e/\e<dy/\y=s ||| meets u l e))
    ⟨Mv.of_le le4,LH.le_trans hle le4,k3.le le4.1,x.days.first,rfl,by omega,by omega,rfl,⟨#[],⟨0,Cells.upd_self _ _ _⟩,fun e he=>by simp at he,fun y hy=>by obtain⟨s,_,e,h1,h2,_⟩:=hy;omega⟩⟩ ?_
   rintro Y2 mm vs h₅ hY2 ⟨mv5,le5,k5,dy,rfl,hd1,hd2,rfl,hmb⟩;refine yJ (fun e1=>?_) (fun e1=>?_)
   ·have hl5:=hl.rd RequestE.grow (Mv.rd hm (mv3.trans mv5));refine t_de (c107 k5 hck hl5 hl4 hdays dy) ?_;rintro _ h₆ mv6 k6 rfl;refine gZ ?_;have le6:h₀.le h₆:=⟨fun r y hr=>mv6.keep r y (by
     rintro rfl;have:(if r=r then none else h₂.get r)=some y:=hr;simp at this) (le5.1 r y hr),mv6.same.1.trans le5.2.1,mv6.same.2.1.trans le5.2.2.1,mv6.same.2.2.trans le5.2.2.2⟩
    have hmt:=meets_lt' u l dy;rw[hP]at hmt;refine t_loop (fun mm vs h'=>Mv m h₃ h'/\h₀.le h'/\Desk h'.get d m f u/\∃ j:Nat,vs=[.int .i64 j]/\j<=pw/\mm=pw-j/\MapIs h'.get b (fun y=>(∃ s∈R,∃ e:Int,x.days.first<=e/\e<dy/\y=s ||| meets u l e)\/∃ s∈R,s<j/\y=s ||| meets u l dy))
     ⟨mv5.trans mv6,le6,k6,0,rfl,Nat.zero_le _,rfl,(hmb.mv hbm mv6).congr fun y=>⟨.inl,fun h=>by rcases h with h|⟨s,_,h1,_⟩;exact h;omega⟩⟩ ?_
    rintro Y3 mm vs h₇ hY3 ⟨mv7,le7,k7,j,rfl,hj,rfl,hmb7⟩;refine yJ (fun e2=>?_) (fun e2=>?_)
    ·have hma:MapIs h₇.get a (fun x=>x∈R):=hmap.mv hne mv7;refine t_lookSet hma (fun hin=>?_) fun hnot=>?_
     ·refine yT ?_;rw[or_small (by omega) (by omega)];refine t_addSet hmb7 fun es cc hnew=>?_;have mv8:Mv m h₃ { h₇ with get:=h₇.get.upd b (true,.map es cc) }:=mv_other mv7 hb hbm;have hb0:h₀.get b=none:=by
       cases hx0:h₀.get b with
       | none=>rfl
       | some y=>rw[hle.1 _ _ hx0]at hb;cases hb
      refine t_again (hY3 (pw-(j+1)) _ _ (by omega) ⟨mv8,⟨fun r y hr=>?_,le7.2⟩,desk_other k7 hbm hmb7.isMap,j+1,?_,by omega,rfl,hnew.congr fun y=>?_⟩)
      ·have:r≠b:=by rintro rfl;rw[hb0]at hr;cases hr
       show Cells.upd _ _ _ r=_;rw[Cells.upd_ne _ _ this];exact le7.1 r y hr
      ·rw[wrap_id (by omega) (by omega)];rfl
      ·constructor
       ·rintro((h1|⟨s,h1,h2,h3⟩)|rfl)
        ·exact .inl h1
        ·exact .inr ⟨s,h1,by omega,h3⟩
        ·exact .inr ⟨j,hin,by omega,rfl⟩
       ·rintro(h1|⟨s,h1,h2,h3⟩)
        ·exact .inl (.inl h1)
        ·by_cases e:s=j
         ·subst e;exact .inr h3
         ·exact .inl (.inr ⟨s,h1,by omega,h3⟩)
     ·refine yF ?_;refine t_again (hY3 (pw-(j+1)) _ _ (by omega) ⟨mv7,le7,k7,j+1,?_,by omega,rfl,hmb7.congr fun y=>?_⟩)
      ·rw[wrap_id (by omega) (by omega)];rfl
      ·constructor
       ·rintro(h1|⟨s,h1,h2,h3⟩)
        ·exact .inl h1
        ·exact .inr ⟨s,h1,by omega,h3⟩
       ·rintro(h1|⟨s,h1,h2,h3⟩)
        ·exact .inl h1
        ·refine .inr ⟨s,h1,?_,h3⟩;have:s≠j:=by rintro rfl;exact hnot h1
         omega
    ·refine gZ ?_;refine t_again (hY2 (x.days.last+1-(dy+1)).toNat _ _ (by omega) ⟨mv7,le7,k7,dy+1,?_,by omega,by omega,rfl,hmb7.congr fun y=>?_⟩)
     ·rw[wrap_id (by omega) (by omega)]
     ·constructor
      ·rintro(⟨s,h1,e,h2,h3,h4⟩|⟨s,h1,h2,h3⟩)
       ·exact⟨s,h1,e,h2,by omega,h4⟩
       ·exact⟨s,h1,dy,hd1,by omega,h3⟩
      ·rintro⟨s,h1,e,h2,h3,h4⟩;by_cases he:e=dy
       ·subst he;exact .inr ⟨s,h1,by have:=hR s h1;omega,h4⟩
       ·exact .inl ⟨s,h1,e,h2,by omega,h4⟩
   ·refine gZ ?_;have hdy:dy=x.days.last+1:=by omega
    subst hdy;refine t_againE le5 (hY _ _ le5 ⟨mv3.trans mv5,k5,b,stepL ((daysOf x.days).map (meets u l)) R,rfl,hbm,hmb.congr fun y=>?_,?_,hc⟩)
    ·simp only[stepL,List.mem_flatMap,List.mem_map,daysOf,List.mem_range];constructor
     ·rintro⟨s,h1,e,h2,h3,rfl⟩;exact⟨s,h1,_,⟨e,⟨(e-x.days.first).toNat,by omega,by omega⟩,rfl⟩,rfl⟩
     ·rintro⟨s,h1,_,⟨e,⟨i,h2,rfl⟩,rfl⟩,rfl⟩;exact⟨s,h1,_,by omega,by omega,rfl⟩
    ·intro s hs;simp only[stepL,List.mem_flatMap,List.mem_map]at hs;obtain⟨s0,h0,mm,⟨e,_,rfl⟩,rfl⟩:=hs;rw[<- hP];exact Nat.or_lt_two_pow (by rw[hP];exact hR s0 h0) (meets_lt' u l e)
end
section
attribute [local irreducible] T.wp CV FWK
theorem against_sub{u:UseFile}{land item day:Int}:∀ r∈against u land item day,r∈u.requests:=fun r hr=>(List.mem_filter.1 hr).1
theorem against_len{u:UseFile}(hck:checkF u=0)(land item day:Int):(against u land item day).length<=4:=Nat.le_trans (List.length_filter_le _ _) (check_requests hck).1
theorem c91{h:LH}{d m:Nat}{f:FileC}{u:UseFile}(k:Desk h.get d m f u)(hck:checkF u=0)(land item day:Int) :
  De 84 #[.pointer (some ⟨d,0,none⟩),.int .i64 land,.int .i64 item,.int .i64 day] h d m f u fun r _=>r=.int .i64 (left u land item day):=by
 refine w91 _ _ _ _ X0_ok ?_;unfold n91;refine t_gr (c101 k hck land item day) ?_;rintro _ h₁ le1 ⟨p,n,c,rfl,hl⟩;have k1:=k.le le1.1;have hm1:=k1.isMap;have hdays:∀ r∈against u land item day,0<=r.day/\r.day<=2000:=fun r hr=>(check_requests hck).2 r (against_sub r hr);have hl4:=against_len hck land item day;refine gZ ?_;have hn:=hl.1;refine t_loop (fun mm vs h'=>Mv m h₁ h'/\Desk h'.get d m f u/\∃ i:Nat,vs=[.bool true,.int .i64 i]/\i<=n/\mm=n-i/\∀ j r,j<i->(against u land item day)[j]?=some r->safe u land item r.day=1)
  ⟨Mv.refl,k1,0,rfl,Nat.zero_le _,rfl,fun j r hj=>by omega⟩ ?_
 rintro Y mm vs h₂ hY ⟨mv,k2,i,rfl,hi,rfl,hall⟩;refine yJ (fun e1=>?_) (fun e1=>?_)
 ·obtain⟨x,a,hx,ha,e2,e3,q,mq,cq,e4,e5⟩:=(hl.rd RequestE.grow (mv.rd hm1)).at (i:=i) (by omega);refine gZ ?_;have hxd:=hdays x (List.mem_of_getElem? hx);refine t_de (c60 k2 (check_num hck) land item x.day hxd) ?_;rintro _ h₃ mv3 k3 rfl;refine yI (fun b=>?_) (fun b=>?_)
  ·refine yF ?_;have mv13:=mv.trans mv3;refine t_de (c102 k3 hck (hl.rd RequestE.grow (mv13.rd hm1)) hl4 hdays land item) ?_;rintro _ h₄ mv4 k4 rfl;refine gZ ?_;have hne:safe u land item x.day≠1:=by simpa using b
   have hnot:¬ ((against u land item day).all fun r=>decide (safe u land item r.day=1))=true:=by
    intro hh;have:=List.all_eq_true.1 hh x (List.mem_of_getElem? hx);exact hne (by simpa using this)
   refine t_cond (fun e=>?_) (fun e=>?_)
   ·refine t_ret ⟨(Mv.of_le le1).trans (mv13.trans mv4),k4,?_⟩;have:can u land item (against u land item day)=false:=by simpa using e
    rw[left,if_neg hnot,this];rfl
   ·refine t_ret ⟨(Mv.of_le le1).trans (mv13.trans mv4),k4,?_⟩;have:can u land item (against u land item day)=true:=by simpa using e
    rw[left,if_neg hnot,this];rfl
  ·refine t_again (hY (n-(i+1)) _ _ (by omega) ⟨mv.trans mv3,k3,i+1,?_,by omega,rfl,fun j r hj hr=>?_⟩)
   ·rw[wrap_id (by omega) (by omega)];rfl
   ·by_cases e:j=i
    ·subst e;rw[hx]at hr;cases hr;simpa using b
    ·exact hall j r (by omega) hr
 ·refine yT ?_;refine t_ret ⟨(Mv.of_le le1).trans mv,k2,?_⟩;have:((against u land item day).all fun r=>decide (safe u land item r.day=1))=true:=by
   rw[List.all_eq_true];intro r hr;obtain⟨j,hj⟩:=List.mem_iff_getElem?.1 hr;have:=hall j r (by have:=(List.getElem?_eq_some_iff.1 hj).1;omega) hj;simpa using this
  rw[left,if_pos this]
def dropM(m:Nat)(h:LH):LH:={ h with get:=fun b=>if b=m then none else h.get b }
theorem dropM_le{m:Nat}{h h':LH}(mv:Mv m h h'):(dropM m h).le h':=by
 refine⟨fun r x hr=>?_,mv.same⟩;have hr':(if r=m then none else h.get r)=some x:=hr;split at hr'
 ·cases hr'
 ·exact mv.keep r x (by assumption) hr'
theorem dropM_rd{m:Nat}{h:LH}(hm:∃ es c,h.get m=some (true,.map es c)):Rd h.get (dropM m h).get:=by
 intro x v hc;have hne:x.block≠m:=by
  intro e;obtain⟨es,c,hm⟩:=hm;unfold Cells.cell? at hc;rw[e,hm]at hc;cases hc
 unfold Cells.cell? at hc ⊢;have e0:(dropM m h).get x.block=h.get x.block:=if_neg hne;rw[e0];exact hc
theorem mv_of_drop{m:Nat}{h h':LH}(hl:(dropM m h).le h')(hm:∃ es c,h'.get m=some (true,.map es c)):Mv m h h' :=
 ⟨fun r x hr hx=>hl.1 r x (by show (if r=m then none else h.get r)=_;rw[if_neg hr];exact hx),fun _ _ _=>hm,hl.2⟩
theorem desk_of_drop{h h':LH}{d m:Nat}{f:FileC}{u:UseFile}(k:Desk h.get d m f u)(hl:(dropM m h).le h')(hm:∃ es c,h'.get m=some (true,.map es c)/\∀ e∈es.toList,∃ day:Int,e.key=.agg #[.int .i64 day,.int .i64 u.idle]/\e.val=.agg #[.int .i64 (window u day).first,.int .i64 day]):Desk h'.get d m f u:=by
 have hr:Rd h.get h'.get:=(dropM_rd k.isMap).trans (Rd.of_le hl.1);exact⟨k.file.rd hr,k.rep.rd hr,fun j hj=>hr _ _ (k.counts j hj),hr _ _ k.mapp,hm⟩
theorem t_growD{α:Type}{X:XP}{Q:Leaf->LH->Prop}{Enc:α->List Value->Prop}{h h₁:LH}{d m:Nat}{f:FileC}{u:UseFile}{k:Value->T}{ts:Array TypeId}{ty sT xT el xe:TypeId}{s by_:Nat}{z:Value}{p:Option Addr}{n c mc:Nat}{b:Addr}{l:List α}{x:α}{ws:List Value}(kd:Desk h.get d m f u)(k1:Desk h₁.get d m f u)(mv:Mv m h h₁)
 (h0:ts[0]?=some sT)(h1:ts[1]?=some xT)(hu:Tryz.prog.underlying sT=some (.slice el))(hx:Tryz.prog.underlying xT=some (.slice xe))(hi:(Tryz.prog.info? el).map (fun i=>(i.size,i.bytes,i.zero))=some (s,by_,some z))(hsz:z.cells.size=s)(hb:by_<=1024)(hn:n+1<=2^30)(g:Growing Enc el s (dropM m h).get h₁.get p n c l)(he:Enc x ws)(hl:ws.length=s)(hc:∀ (j:Nat) v,ws[j]?=some v->h₁.get.cell? (b.add j)=some v)(one:∀ v∈ws,isOne v=true)
 (hk:∀ p' c' h',Mv m h h'->Desk h'.get d m f u->Growing Enc el s (dropM m h).get h'.get p' (n+1) c' (l++[x])->(k (.slice p' (n+1) c')).wp X Tryz.prog Q h'):(T.sem false (Builtin.append_ ts ty #[.slice p n c,.slice (some b) 1 mc]) k).wp X Tryz.prog Q h₁:=by
 have hpm:∀ a,p=some a->a.block≠m:=by
  intro a ha e;obtain⟨vs,⟨_,h2⟩,_⟩:=g.row;obtain⟨es,c',hm⟩:=k1.isMap;rcases h2 with⟨rfl,_⟩|⟨r,cs,rfl,hr,_⟩
  ·cases ha
  ·cases ha;subst e;rw[hm]at hr;cases hr
 refine t_grow h0 h1 hu hx hi hsz hb hn g (dropM_le mv) he hl hc one fun p' c' h' hle hkeep g'=>?_;obtain⟨es,c0,hm,hv⟩:=k1.map;have hm':=hkeep m _ hpm hm;exact hk p' c' h' (mv_of_drop hle ⟨es,c0,hm'⟩) (desk_of_drop kd hle ⟨es,c0,hm',hv⟩) g'
theorem leftAll_take{u:UseFile}{land day:Int}(i:Nat)(hi:i<u.items.toNat):(leftAll u land day).take (i+1)=(leftAll u land day).take i++[left u land i day]:=by
 have hlen:i<(leftAll u land day).length:=by unfold leftAll;rw[List.length_map,List.length_range];exact hi
 rw[List.take_succ_eq_append_getElem hlen];congr 2;simp[leftAll]
theorem c63{h:LH}{d m:Nat}{f:FileC}{u:UseFile}(k:Desk h.get d m f u)(hck:checkF u=0)(land day:Int) :
  De 50 #[.pointer (some ⟨d,0,none⟩),.int .i64 land,.int .i64 day] h d m f u fun r h'=>∃ p n c,r=.slice p n c/\Growing IntEnc 61 1 (dropM m h).get h'.get p n c (leftAll u land day):=by
 refine w63 _ _ _ X0_ok ?_;unfold n63;obtain⟨f0,f1,f2,f3,f4,f5,f6⟩:=k.file;have hit:=(num_ok (check_num hck)).1;refine gZ ?_;have hlen:(leftAll u land day).length=u.items.toNat:=by unfold leftAll;rw[List.length_map,List.length_range]
 refine t_loop (fun mm vs h'=>Mv m h h'/\Desk h'.get d m f u/\∃ (i:Nat) (p:Option Addr) (n c:Nat),vs=[.slice p n c,.int .i64 i]/\i<=u.items.toNat/\mm=u.items.toNat-i/\Growing IntEnc 61 1 (dropM m h).get h'.get p n c ((leftAll u land day).take i))
  ⟨Mv.refl,k,0,none,0,0,rfl,Nat.zero_le _,rfl,Growing.nil⟩ ?_
 rintro Y mm vs h₁ hY ⟨mv,k1,i,p,n,c,rfl,hi,rfl,g⟩;refine yJ (fun e1=>?_) (fun e1=>?_)
 ·have hm1:=k1.isMap;refine t_de (c91 k1 hck land i day) ?_;rintro _ h₂ mv2 k2 rfl;refine gZ ?_;have g2:=g.mv hm1 mv2;refine t_build und40 inf34 (by decide) (by decide) (cells:=#[.int .i64 (left u land i day)]) (by kernel_rfl) fun r hr=>?_;have le3:h₂.le _:=LH.upd_le (x:=(true,.cells #[.int .i64 (left u land i day)] 61 (0,0))) hr;have hng:=g2.count IntEnc.len (by omega);rw[List.length_take]at hng;refine gZ ?_;refine t_growD (x:=left u land i day) (ws:=[.int .i64 (left u land i day)]) k (k2.le le3.1) ((mv.trans mv2).trans (Mv.of_le le3)) rfl rfl und40 und40 inf34 rfl (by omega) (by omega) (g2.le le3.1) rfl rfl ?_ ?_ ?_
  ·intro j w hj;rw[add_plain,Nat.zero_add];exact cell_upd (by simpa using hj)
  ·intro w hw;simp at hw;subst hw;rfl
  ·intro p' c' h₄ mv4 k4 g4;refine gZ ?_;refine t_again (hY (u.items.toNat-(i+1)) _ _ (by omega) ⟨mv4,k4,i+1,p',n+1,c',?_,by omega,rfl,?_⟩)
   ·rw[wrap_id (by omega) (by omega)];rfl
   ·rw[leftAll_take i (by omega)];exact g4
 ·refine gZ ?_;have:i=u.items.toNat:=by omega
  subst this;rw[List.take_of_length_le (by omega)]at g;exact t_ret ⟨mv,k1,p,n,c,rfl,g⟩
def LeftR(h':Cells)(u:UseFile)(land day:Int)(r:Value):Prop :=
 (openF u [landQ u land,dayQ day]≠0/\r=.tuple #[.slice none 0 0,.int .i64 (openF u [landQ u land,dayQ day])]) \/
 (openF u [landQ u land,dayQ day]=0/\∃ p n c,r=.tuple #[.slice p n c,.int .i64 0]/\Sl IntE 1 h' p n (leftAll u land day))
theorem c23{h:LH}{f:FileC}{u:UseFile}(hp:Parts h.get)(hu:FileR h.get f u)(land day:Int):Gr Tryz.prog 20 #[fileV f u,land,day] h fun r h'=>LeftR h'.get u land day r:=by
 refine w23 _ _ _ _ _ _ _ _ _ _ _ _ _ _ _ X0_ok ?_;unfold n23;refine t_gr (c58 u land) ?_;rintro v0 h₁ le1 ⟨q0,a0⟩;refine gZ ?_;refine t_gr (c54 u day) ?_;rintro v1 h₂ le2 ⟨q1,a1⟩;refine gZ ?_;refine asks2 q0 (a0.le le2) q1 a1 fun r h₄ le4 hs=>?_;refine gZ ?_;have le14:=LH.le_trans (LH.le_trans le1 le2) le4;refine t_call (c53 (f:=f) (hp.le le14.1) (hu.le le14.1) hs) ?_;rintro v h₅ ⟨le5,⟨hne,rfl⟩|⟨h0,d,m,rfl,hd,hm,k⟩⟩
 ·refine gZ ?_;refine t_cond (fun _=>?_) (fun e=>absurd (by simpa using e) hne);exact t_ret ⟨LH.le_trans le14 le5,.inl ⟨hne,rfl⟩⟩
 ·refine yF ?_;refine t_de (c63 k (open_num h0).2 land day) ?_;rintro _ h₆ mv k6 ⟨p,n,c,rfl,g⟩;refine gZ ?_;refine t_ret ⟨LH.le_trans le14 (Mv.le_of le5 hm mv),.inr ⟨h0,p,n,c,rfl,?_⟩⟩;refine g.sl IntEnc.len (by omega) IntEnc.e ?_;have:=(num_ok (open_num h0).1).1;unfold leftAll;rw[List.length_map,List.length_range];omega
end
section
attribute [local irreducible] T.wp CV FWK
def LackEnc(x:Lack)(ws:List Value):Prop:=ws=[.int .i64 x.item,.int .i64 x.request,.int .i64 x.window.first,.int .i64 x.window.last]
theorem LackEnc.len:∀ x ws,LackEnc x ws->ws.length=4:=by rintro x _ rfl;rfl
theorem LackEnc.e{h':Cells}:∀ a x ws,LackEnc x ws->(∀ (j:Nat) w,ws[j]?=some w->h'.cell? (a.add j)=some w)->LackE h' a x:=by
 rintro a x _ rfl hc;exact⟨hc 0 _ rfl,hc 1 _ rfl,hc 2 _ rfl,hc 3 _ rfl⟩
theorem check_items{u:UseFile}(h:checkF u=0):∀ r∈u.requests,risesF r.items u.items=0:=by
 obtain⟨_,h2⟩:=eachF_zero (check_parts h).2.2.2;intro r hr;obtain⟨j,hj⟩:=List.mem_iff_getElem?.1 hr;have:=h2 j r hj;have key:∀ (c1 c2 c3:Prop) [Decidable c1] [Decidable c2] [Decidable c3] (x:Int),(if c1 then (1:Int) else if c2 then 7 else if c3 then 6 else x)=0->x=0:=by
  intro c1 c2 c3 _ _ _ x hx;by_cases a1:c1
  ·rw[if_pos a1]at hx;cases hx
  ·rw[if_neg a1]at hx;by_cases a2:c2
   ·rw[if_pos a2]at hx;cases hx
   ·rw[if_neg a2]at hx;by_cases a3:c3
    ·rw[if_pos a3]at hx;cases hx
    ·rw[if_neg a3]at hx;exact hx
 exact key _ _ _ _ this
theorem rises_len{l:List Int}{b:Int}(h:risesF l b=0):(∀ i (hi:i<l.length),(i:Int)<=l[i]/\l[i]<b/\0<=l[i]):=by
 have h':=firstF_zero' h;intro i
 induction i with
 | zero =>
  intro hi;have:=h' 0 l[0] (List.getElem?_eq_getElem hi);unfold riseF at this;split at this
  ·cases this
  ·rename_i h1;simp[isIn]at h1;omega
 | succ i ih =>
  intro hi;have h1:=ih (by omega);have:=h' (i+1) l[i+1] (List.getElem?_eq_getElem hi);unfold riseF at this;split at this
  ·cases this
  ·split at this
   ·cases this
   ·rename_i h2 h3;simp[isIn]at h2;have e:l.getD (0+(i+1)-1) 0=l[i]:=by
     rw[show 0+(i+1)-1=i by omega];simp[List.getD,List.getElem?_eq_getElem (show i<l.length by omega)]
    rw[e]at h3;have:¬ l[i+1]<=l[i]:=fun hh=>h3 ⟨by omega,hh⟩;omega
theorem rises_len'{l:List Int}{b:Int}(h:risesF l b=0)(hb:0<=b):(l.length:Int)<=b:=by
 by_cases h0:l.length=0
 ·omega
 ·have:=rises_len h (l.length-1) (by omega);omega
theorem lacksGo_len{u:UseFile}{land day:Int}(hi:∀ r∈u.requests,r.items.length<=6):∀ (l:List Request) (i:Nat),(∀ r∈l,r∈u.requests)->(lacksGo u land day l i).length<=l.length*6:=by
 intro l
 induction l with
 | nil=>intro i _;simp[lacksGo]
 | cons r l ih =>
  intro i hs;rw[lacksGo,List.length_append];have h1:=ih (i+1) fun r hr=>hs r (by simp[hr]);have h2:(lacksOf u land day i r).length<=6:=by
   unfold lacksOf;split
   ·simp
   ·rw[List.length_map];exact Nat.le_trans (List.length_filter_le _ _) (hi r (hs r (by simp)))
  simp only[List.length_cons];omega
def LacksR(h':Cells)(u:UseFile)(land day:Int)(r:Value):Prop :=
 (openF u [landQ u land,dayQ day]≠0/\r=.tuple #[.slice none 0 0,.int .i64 (openF u [landQ u land,dayQ day])]) \/
 (openF u [landQ u land,dayQ day]=0/\∃ p n c,r=.tuple #[.slice p n c,.int .i64 0]/\Sl LackE 4 h' p n (lacks u land day))
theorem c28{h:LH}{f:FileC}{u:UseFile}(hp:Parts h.get)(hu:FileR h.get f u)(land day:Int):Gr Tryz.prog 21 #[fileV f u,land,day] h fun r h'=>LacksR h'.get u land day r:=by
 refine w28 _ _ _ _ _ _ _ _ _ _ _ _ _ _ _ X0_ok ?_;unfold n28;refine t_gr (c58 u land) ?_;rintro v0 h₁ le1 ⟨q0,a0⟩;refine gZ ?_;refine t_gr (c54 u day) ?_;rintro v1 h₂ le2 ⟨q1,a1⟩;refine gZ ?_;refine asks2 q0 (a0.le le2) q1 a1 fun r h₄ le4 hs=>?_;refine gZ ?_;have le14:=LH.le_trans (LH.le_trans le1 le2) le4;refine t_call (c53 (f:=f) (hp.le le14.1) (hu.le le14.1) hs) ?_;rintro v h₅ ⟨le5,⟨hne,rfl⟩|⟨h0,d,m,rfl,hd,hm,k⟩⟩
 ·refine gZ ?_;refine t_cond (fun _=>?_) (fun e=>absurd (by simpa using e) hne);exact t_ret ⟨LH.le_trans le14 le5,.inl ⟨hne,rfl⟩⟩
 ·refine yF ?_;have hck:=(open_num h0).2;have hnum:=check_num hck;have hreq:=check_requests hck;have hitn:=(num_ok hnum).1;have hitems:∀ r∈u.requests,r.items.length<=6:=fun r hr=>by have:=rises_len' (check_items hck r hr) (by omega);omega
  have hlen6:=lacksGo_len (land:=land) (day:=day) hitems u.requests 0 fun r hr=>hr;have le15:=LH.le_trans le14 le5;have hrq:=(hu.le le15.1).requests;have hn6:=hrq.1;have hm5:=k.isMap;refine t_loop (fun mm vs h'=>Mv m h₅ h'/\Desk h'.get d m f u/\∃ (i:Nat) (p:Option Addr) (n c:Nat) (rs:List Lack),vs=[.slice p n c,.int .i64 i]/\i<=f.n6/\mm=f.n6-i/\Growing LackEnc 80 4 (dropM m h₅).get h'.get p n c rs/\lacks u land day=rs++lacksGo u land day (u.requests.drop i) i)
   ⟨Mv.refl,k,0,none,0,0,[],rfl,Nat.zero_le _,rfl,Growing.nil,rfl⟩ ?_
  rintro Y mm vs h₆ hY ⟨mv,k6,i,p,n,c,rs,rfl,hi,rfl,g,hc⟩;refine yJ (fun e1=>?_) (fun e1=>?_)
  ·obtain⟨x,a,hx,ha,e2,e3,q,mq,cq,e4,e5⟩:=hrq.at (i:=i) (by omega);have e2:=mv.rd hm5 _ _ e2;have e3:=mv.rd hm5 _ _ e3;have e4:=mv.rd hm5 _ _ e4;have hxm:=List.mem_of_getElem? hx;have hxd:=hreq.2 x hxm;have hx6:=hitems x hxm;rw[drop_of hx,lacksGo]at hc;refine gZ ?_;have next:∀ h' p n c rs',Mv m h₅ h'->Desk h'.get d m f u->Growing LackEnc 80 4 (dropM m h₅).get h'.get p n c rs'->rs'=rs++lacksOf u land day i x->Y [.slice p n c,.int .i64 (wrap .i64 ((i:Int)+1))] h':=by
    rintro h' p n c rs' mv' k' g' rfl;refine hY (f.n6-(i+1)) _ _ (by omega) ⟨mv',k',i+1,p,n,c,_,?_,by omega,rfl,g',by rw[hc,List.append_assoc]⟩;rw[wrap_id (by omega) (by omega)];rfl
   refine t_blk (fun vs h'=>vs=[]/\h₆=h'/\x.land=land/\x.day<=day) ?_ ?_
   ·refine t_cond (fun b1=>?_) (fun b1=>?_)
    ·refine gR ?_;refine yT ?_;refine gZ ?_;refine t_again (next h₆ p n c rs mv k6 g ?_);have:x.land≠land:=by simpa using b1
     rw[lacksOf,if_pos (.inl this)];simp
    ·refine t_if (fun b2=>?_) (fun b2=>?_)
     ·refine gR ?_;refine yT ?_;refine gZ ?_;refine t_again (next h₆ p n c rs mv k6 g ?_);rw[lacksOf,if_pos (.inr b2)];simp
     ·exact t_again ⟨rfl,rfl,by simpa using b1,by omega⟩
   ·rintro vs _ ⟨rfl,rfl,hland,hday⟩;refine gZ ?_;have hof:lacksOf u land day i x=(x.items.filter fun n=>decide (safe u land n x.day≠1)).map fun n=>⟨n,(i:Int),⟨(window u x.day).first,x.day⟩⟩:=by
     rw[lacksOf,if_neg (by omega)]
    have hmq:=e5.1;refine t_loop (fun mm vs h'=>Mv m h₅ h'/\Desk h'.get d m f u/\∃ (j:Nat) (p:Option Addr) (n c:Nat) (ss:List Lack),vs=[.slice p n c,.int .i64 j]/\j<=mq/\mm=mq-j/\ss.length<=j/\Growing LackEnc 80 4 (dropM m h₅).get h'.get p n c (rs++ss)/\lacksOf u land day i x=ss++((x.items.drop j).filter fun n=>decide (safe u land n x.day≠1)).map fun n=>⟨n,(i:Int),⟨(window u x.day).first,x.day⟩⟩)
     ⟨mv,k6,0,p,n,c,[],rfl,Nat.zero_le _,rfl,Nat.le_refl _,by simpa using g,hof⟩ ?_
    rintro Y2 mm vs h₇ hY2 ⟨mv7,k7,j,p,n,c,ss,rfl,hj,rfl,hsl,g7,hc7⟩;refine yJ (fun e6=>?_) (fun e6=>?_)
    ·obtain⟨y,b,hy,hb,e7⟩:=(e5.rd IntE.grow (mv7.rd hm5)).at (i:=j) (by omega);unfold IntE at e7;rw[drop_of hy,List.filter_cons]at hc7;refine gZ ?_;refine t_de (c60 k7 hnum land y x.day hxd) ?_;rintro _ h₈ mv8 k8 rfl;have g8:=g7.mv k7.isMap mv8;refine yI (fun b1=>?_) (fun b1=>?_)
     ·have b1':decide (safe u land y x.day≠1)=true:=by simpa using b1
      rw[if_pos b1',List.map_cons]at hc7;refine t_de (c55 k8 (num_ok hnum).2.2.2 x.day hxd) ?_;rintro _ h₉ mv9 k9 rfl;have g9:=g8.mv k8.isMap mv9;have e7':=(mv8.trans mv9).rd k7.isMap _ _ e7;refine gZ ?_;refine t_build und45 inf79 (by decide) (by decide) (cells:=#[.int .i64 y,.int .i64 i,.int .i64 (window u x.day).first,.int .i64 x.day]) (by kernel_rfl) fun r hr=>?_;have le10:h₉.le _:=LH.upd_le (x:=(true,.cells #[.int .i64 y,.int .i64 i,.int .i64 (window u x.day).first,.int .i64 x.day] 80 (0,0))) hr;have hng:=g9.count LackEnc.len (by omega);have hrs6:rs.length<=u.requests.length*6:=by
       have:=hlen6;unfold lacks at hc;rw[hc,List.length_append]at this;omega
      have hssl:ss.length<=6:=by have:=e5.1;omega
      rw[List.length_append]at hng;refine gZ ?_;refine t_growD (x:=(⟨y,(i:Int),⟨(window u x.day).first,x.day⟩⟩ : Lack)) (ws:=[.int .i64 y,.int .i64 i,.int .i64 (window u x.day).first,.int .i64 x.day]) k (k9.le le10.1) (((mv7.trans mv8).trans mv9).trans (Mv.of_le le10)) rfl rfl und45 und45 inf79 rfl (by omega) (by omega) (g9.le le10.1) rfl rfl ?_ ?_ ?_
      ·intro j w hj;rw[add_plain,Nat.zero_add];exact cell_upd (by simpa using hj)
      ·intro w hw;simp at hw;rcases hw with rfl|rfl|rfl|rfl<;>rfl
      ·intro p' c' h₁₀ mv10 k10 g10;refine gZ ?_;refine t_again (hY2 (mq-(j+1)) _ _ (by omega) ⟨mv10,k10,j+1,p',n+1,c',ss++[⟨y,(i:Int),⟨(window u x.day).first,x.day⟩⟩],?_,by omega,rfl,by simp;omega,by rw[<- List.append_assoc];exact g10,by rw[hc7];simp⟩);rw[wrap_id (by omega) (by omega)];rfl
     ·have b1':decide (safe u land y x.day≠1)=false:=by simpa using b1
      rw[if_neg (by rw[b1'];simp)]at hc7;refine t_again (hY2 (mq-(j+1)) _ _ (by omega) ⟨mv7.trans mv8,k8,j+1,p,n,c,ss,?_,by omega,rfl,by omega,g8,hc7⟩);rw[wrap_id (by omega) (by omega)];rfl
    ·refine gZ ?_;rw[List.drop_eq_nil_of_le (by omega)]at hc7;refine t_again (next h₇ p n c _ mv7 k7 g7 ?_);rw[hc7];simp
  ·refine gZ ?_;rw[List.drop_eq_nil_of_le (by omega),lacksGo,List.append_nil]at hc;refine t_ret ⟨LH.le_trans le14 (Mv.le_of le5 hm mv),.inr ⟨h0,p,n,c,rfl,?_⟩⟩;rw[hc];refine g.sl LackEnc.len (by omega) LackEnc.e ?_;have:rs.length<=u.requests.length*6:=by
    have:=hlen6;unfold lacks at hc;rw[hc]at this;exact this
   omega
def PaperEnc(h₀:Cells)(x:Paper)(ws:List Value):Prop:=∃ q m c,ws=[.int .i64 x.days.first,.int .i64 x.days.last,.int .i64 x.land,.slice q m c]/\Sl IntE 1 h₀ q m x.items
theorem PaperEnc.len{h₀:Cells}:∀ x ws,PaperEnc h₀ x ws->ws.length=4:=by rintro x _ ⟨q,m,c,rfl,_⟩;rfl
theorem PaperEnc.e{h₀ h':Cells}(hr:Rd h₀ h'):∀ a x ws,PaperEnc h₀ x ws->(∀ (j:Nat) w,ws[j]?=some w->h'.cell? (a.add j)=some w)->PaperE h' a x:=by
 rintro a x _ ⟨q,m,c,rfl,hs⟩ hc;exact⟨hc 0 _ rfl,hc 1 _ rfl,hc 2 _ rfl,q,m,c,hc 3 _ rfl,hs.rd IntE.grow hr⟩
def enoughB(u:UseFile)(land day:Int)(papers all:List Int):Bool:=decide (checkF (withP u papers)=0)&&coversB all (leftAll (withP u papers) land day)
theorem withP_take{u:UseFile}{pl:List Int}{i:Nat}{v:Int}{x:Paper}(hv:pl[i]?=some v)(hx:u.papers[v.toNat]?=some x):(pl.take (i+1)).filterMap (fun n=>u.papers[n.toNat]?)=(pl.take i).filterMap (fun n=>u.papers[n.toNat]?)++[x]:=by
 obtain⟨hlt,rfl⟩:=List.getElem?_eq_some_iff.1 hv;rw[List.take_succ_eq_append_getElem hlt,List.filterMap_append];simp[hx]
theorem c71{h:LH}{f:FileC}{u:UseFile}(hp:Parts h.get)(hu:FileR h.get f u)(land day:Int){pp:Option Addr}{pn pc:Nat}{pl:List Int}(hpl:Sl IntE 1 h.get pp pn pl)(hin:∀ v∈pl,0<=v/\v<(u.papers.length:Int))(hpl8:pl.length<=8)
 {ap:Option Addr}{an ac:Nat}{all:List Int}(hal:Sl IntE 1 h.get ap an all)(halen:all.length=u.items.toNat):Gr Tryz.prog 52 #[fileV f u,land,day,.slice pp pn pc,.slice ap an ac] h fun r _=>r=.bool (enoughB u land day pl all):=by
 refine w71 _ _ _ _ _ _ _ _ _ _ _ _ _ _ _ _ _ _ _ _ _ X0_ok ?_;unfold n71;have hn:=hpl.1;have hn5:=hu.papers.1;refine t_loop (fun mm vs h'=>h.le h'/\∃ (i:Nat) (p:Option Addr) (n c:Nat),vs=[.int .i64 i,.int .i64 u.items,.int .i64 u.lands,.int .i64 u.from_,.int .i64 u.idle,.slice f.p4 f.n4 f.c4,.slice p n c,.slice f.p6 f.n6 f.c6]/\i<=pn/\mm=pn-i /\
   Growing (PaperEnc h.get) 31 4 h.get h'.get p n c ((pl.take i).filterMap fun n=>u.papers[n.toNat]?)) ⟨LH.le_refl _,0,none,0,0,rfl,Nat.zero_le _,rfl,Growing.nil⟩ ?_
 rintro Y mm vs h₁ hY ⟨hle,i,p,n,c,rfl,hi,rfl,g⟩;refine yJ (fun e1=>?_) (fun e1=>?_)
 ·obtain⟨v,a,hv,ha,e2⟩:=hpl.at (i:=i) (by omega);unfold IntE at e2;have e2:=Cells.cell?_le hle.1 e2;have hvr:=hin v (List.mem_of_getElem? hv);have hvn:((v.toNat:Nat):Int)=v:=by omega
  obtain⟨x,b,hx,hb,e3,e4,e5,q,mq,cq,e6,e7⟩:=hu.papers.at (i:=v.toNat) (by omega);have e3:=Cells.cell?_le hle.1 e3;have e4:=Cells.cell?_le hle.1 e4;have e5:=Cells.cell?_le hle.1 e5;have e6:=Cells.cell?_le hle.1 e6;have hnv:0<=v/\v<(f.n5:Int):=by omega
  refine gZ ?_;refine t_build und23 inf69 (by decide) (by decide) (cells:=#[.int .i64 x.days.first,.int .i64 x.days.last,.int .i64 x.land,.slice q mq cq]) (by kernel_rfl) fun r hr=>?_;have le2:h₁.le _:=LH.upd_le (x:=(true,.cells #[.int .i64 x.days.first,.int .i64 x.days.last,.int .i64 x.land,.slice q mq cq] 31 (0,0))) hr;have hng:=g.count PaperEnc.len (by omega);have hlen:((pl.take i).filterMap fun n=>u.papers[n.toNat]?).length<=8:=Nat.le_trans (List.length_filterMap_le _ _) (by rw[List.length_take];omega);refine gZ ?_;refine t_grow (x:=x) (ws:=[.int .i64 x.days.first,.int .i64 x.days.last,.int .i64 x.land,.slice q mq cq]) rfl rfl und23 und23 inf69 rfl (by omega) (by omega) (g.le le2.1) (LH.le_trans hle le2) ⟨q,mq,cq,rfl,e7⟩ rfl ?_ ?_ ?_
  ·intro j w hj;rw[add_plain,Nat.zero_add];exact cell_upd (by simpa using hj)
  ·intro w hw;simp at hw;rcases hw with rfl|rfl|rfl|rfl<;>rfl
  ·intro p' c' h₂ hle2 _ g2;refine gZ ?_;refine t_again (hY (pn-(i+1)) _ _ (by omega) ⟨hle2,i+1,p',n+1,c',?_,by omega,rfl,by rw[withP_take hv hx];exact g2⟩);rw[wrap_id (by omega) (by omega)];rfl
 ·refine gZ ?_;have hpi:pl.take i=pl:=List.take_of_length_le (by omega);rw[hpi]at g;have hlen:(pl.filterMap fun n=>u.papers[n.toNat]?).length<=8:=Nat.le_trans (List.length_filterMap_le _ _) hpl8;have hsl:=g.sl PaperEnc.len (by omega) (PaperEnc.e (Rd.of_le hle.1)) (by omega);have hu':FileR h₁.get { f with p5:=p,n5:=n,c5:=c } (withP u pl):=⟨hu.excuses.le SpanE.grow hle.1,hsl,hu.requests.le RequestE.grow hle.1⟩
  refine t_call (c53 (f:={ f with p5:=p,n5:=n,c5:=c }) (u:=withP u pl) (l:=[]) (hp.le hle.1) hu' ⟨rfl,by show 0<_;omega,fun i g hg=>by simp at hg⟩) ?_;rintro v h₂ ⟨le2,⟨hne,rfl⟩|⟨h0,d,m,rfl,hd,hm,k⟩⟩
  ·refine gZ ?_;refine t_cond (fun _=>?_) (fun e=>absurd (by simpa using e) hne);refine t_ret ⟨LH.le_trans hle le2,?_⟩;have:checkF (withP u pl)≠0:=by
    intro hc;apply hne;rw[openF,if_neg (by simp[hc])];rfl
   unfold enoughB;rw[decide_eq_false this];rfl
  ·refine yF ?_;have hck:=(open_num h0).2;refine t_de (c63 k hck land day) ?_;rintro _ h₃ mv k3 ⟨p3,n3,c3,rfl,g3⟩;refine gZ ?_;have hitn:=(num_ok (open_num h0).1).1;have hitn':(withP u pl).items=u.items:=rfl;rw[hitn']at hitn;have hll:(leftAll (withP u pl) land day).length=u.items.toNat:=by unfold leftAll;rw[List.length_map,List.length_range,hitn']
   have hs3:=g3.sl IntEnc.len (by omega) IntEnc.e (by omega);have hle3:=Mv.le_of (LH.le_trans hle le2) (by
    cases hx:h.get m with
    | none=>rfl
    | some y=>rw[hle.1 _ _ hx]at hm;cases hm) mv
   have hal3:=hal.le IntE.grow hle3.1;have hn3:=hs3.1;have han:=hal3.1;refine t_loop (fun mm vs h'=>h₃=h'/\∃ j:Nat,vs=[.bool false,.int .i64 j]/\j<=n3/\mm=n3-j/\coversB all (leftAll (withP u pl) land day)=coversB (all.drop j) ((leftAll (withP u pl) land day).drop j)) ⟨rfl,0,rfl,Nat.zero_le _,rfl,rfl⟩ ?_;rintro Y2 mm vs _ hY2 ⟨rfl,j,rfl,hj,rfl,hc⟩;refine gZ ?_;have hfin:∀ b,coversB all (leftAll (withP u pl) land day)=b->Value.bool b=.bool (enoughB u land day pl all):=by
    intro b hb;unfold enoughB;rw[decide_eq_true hck,hb];rfl
   refine t_if (fun e6=>?_) (fun e6=>?_)
   ·obtain⟨y,a1,hy,ha1,e7⟩:=hs3.at (i:=j) (by omega);obtain⟨z,a2,hz,ha2,e8⟩:=hal3.at (i:=j) (by omega);unfold IntE at e7 e8;rw[drop_of hy,drop_of hz,coversB]at hc;refine gZ ?_;have next:(!decide (z=1)||decide (y=1))=true->Y2 [.bool false,.int .i64 (wrap .i64 ((j:Int)+1))] h₃:=by
     intro hh;rw[hh,Bool.true_and]at hc;refine hY2 (n3-(j+1)) _ _ (by omega) ⟨rfl,j+1,?_,by omega,rfl,hc⟩;rw[wrap_id (by omega) (by omega)];rfl
    refine t_cond (fun b1=>?_) (fun b1=>?_)
    ·have b1':z=1:=by simpa using b1
     refine t_cond (fun b2=>?_) (fun b2=>?_)
     ·have b2':y≠1:=by simpa using b2
      refine gZ ?_;refine t_ret ⟨hle3,hfin false ?_⟩;rw[hc];simp[b1',b2']
     ·have b2':y=1:=by simpa using b2
      exact t_again (next (by simp[b2']))
    ·have b1':z≠1:=by simpa using b1
     exact t_again (next (by simp[b1']))
   ·refine gZ ?_;refine t_ret ⟨hle3,hfin true ?_⟩;rw[hc,List.drop_eq_nil_of_le (show (leftAll (withP u pl) land day).length<=j by omega)];cases all.drop j<;>rfl
theorem c69{h:LH}{f:FileC}{u:UseFile}(hu5:f.n5=u.papers.length)(hub:(u.papers.length:Int)<4611686018427387904){z:Addr}{p:Option Addr}{n c:Nat}{l:List Int}(hz:h.get.cell? z=some (.slice p n c))(hl:Sl IntE 1 h.get p n l):Gr Tryz.prog 54 #[fileV f u,.pointer (some z)] h fun r _=>r=.int .i64 (risesF l u.papers.length):=by
 refine w69 _ _ _ _ _ _ _ _ _ _ _ _ _ _ X0_ok ?_;unfold n69;refine gL1 hz ?_;rw[hu5];refine t_gr (c70 hl (by unfold IsI;omega)) ?_;rintro _ h' hle rfl;refine gZ ?_;exact t_ret ⟨hle,rfl⟩
theorem rises_in{l:List Int}{b:Int}(h:risesF l b=0):∀ v∈l,0<=v/\v<b:=by
 intro v hv;obtain⟨i,hi,rfl⟩:=List.getElem_of_mem hv;have:=rises_len h i hi;omega
def enoughQ(u:UseFile)(land day:Int)(papers:List Int):List Int:=[landQ u land,dayQ day,risesF papers u.papers.length]
def enoughR(u:UseFile)(land day:Int)(papers:List Int):Value :=
 if openF u (enoughQ u land day papers)≠0 then .tuple #[.bool false,.int .i64 (openF u (enoughQ u land day papers))] else .tuple #[.bool (enoughB u land day papers (leftAll u land day)),.int .i64 0]
theorem c31{h:LH}{f:FileC}{u:UseFile}(hp:Parts h.get)(hu:FileR h.get f u)(land day:Int){pp:Option Addr}{pn pc:Nat}{pl:List Int}(hpl:Sl IntE 1 h.get pp pn pl):Gr Tryz.prog 23 #[fileV f u,land,day,.slice pp pn pc] h fun r _=>r=enoughR u land day pl:=by
 refine w31 _ _ _ _ _ _ _ _ _ _ _ _ _ _ _ _ _ _ X0_ok ?_;unfold n31;refine t_new fun r hr=>?_;have le0:h.le _:=LH.upd_le (x:=(true,.cells #[.slice pp pn pc] 29 (0,0))) hr;have z0:Cells.cell? (h.get.upd r (true,.cells #[.slice pp pn pc] 29 (0,0))) ⟨r,0,none⟩=some (.slice pp pn pc):=cell_upd rfl;refine t_gr (c58 u land) ?_;rintro v0 h₁ le1 ⟨q0,a0⟩;refine gZ ?_;refine t_gr (c54 u day) ?_;rintro v1 h₂ le2 ⟨q1,a1⟩;refine gZ ?_;have le02:=LH.le_trans (LH.le_trans le0 le1) le2;have hub:=hu.papers.2.1;have z2:=Cells.cell?_le (LH.le_trans le1 le2).1 z0;have a2:Asks (.func (.func 54) #[] #[.pointer (some ⟨r,0,none⟩)]) h₂ u (risesF pl u.papers.length):=by
  intro _ f' h' hle hu';exact cv_fw X0_ok (by rfl) (c69 hu'.papers.1 (by omega) (Cells.cell?_le hle.1 z2) (hpl.le IntE.grow (LH.le_trans le02 hle).1))
 refine asks3 q0 (a0.le le2) q1 a1 ⟨_,_,_,rfl⟩ a2 fun r' h₄ le4 hs=>?_;refine gZ ?_;have le14:=LH.le_trans le02 le4;refine t_call (c53 (f:=f) (hp.le le14.1) (hu.le le14.1) hs) ?_;rintro v h₅ ⟨le5,⟨hne,rfl⟩|⟨h0,d,m,rfl,hd,hm,k⟩⟩
 ·refine gZ ?_;refine t_cond (fun _=>?_) (fun e=>absurd (by simpa using e) hne);refine t_ret ⟨LH.le_trans le14 le5,?_⟩;show _=enoughR u land day pl;rw[enoughR,if_pos (show openF u (enoughQ u land day pl)≠0 from hne)];rfl
 ·refine yF ?_;have le25:=LH.le_trans le4 le5;have z5:=Cells.cell?_le le25.1 z2;refine gL1 z5 ?_;have hck:=(open_num h0).2;refine t_de (c63 k hck land day) ?_;rintro _ h₆ mv k6 ⟨p,n,c,rfl,g⟩;refine gZ ?_;have z6:=mv.rd k.isMap _ _ z5;refine gL1 z6 ?_;refine gZ ?_;have hm0:h.get m=none:=by
   cases hx:h.get m with
   | none=>rfl
   | some x=>rw[le14.1 _ _ hx]at hm;cases hm
  have le6:=Mv.le_of (LH.le_trans le14 le5) hm0 mv;have hrise:risesF pl u.papers.length=0:=open_zero h0 _ (by simp);have hpap:=(check_papers hck).1;have hpl8:=rises_len' hrise (by omega);have hitn:=(num_ok (open_num h0).1).1;have hll:(leftAll u land day).length=u.items.toNat:=by unfold leftAll;rw[List.length_map,List.length_range]
  refine t_gr (c71 (hp.le le6.1) (hu.le le6.1) land day (hpl.le IntE.grow le6.1) (rises_in hrise) (by omega) (g.sl IntEnc.len (by omega) IntEnc.e (by omega)) hll) ?_;rintro _ h₇ le7 rfl;refine gZ ?_;refine t_ret ⟨LH.le_trans le6 le7,?_⟩;show _=enoughR u land day pl;rw[enoughR,if_neg (by unfold enoughQ;simpa using h0)]
def cmpI(x y:Int):Int:=if x<y then -1 else if x>y then 1 else 0
def cmpL:List Int->List Int->Int
 | [],[]=>0
 | [],_::_=>-1
 | _::_,[]=>1
 | x::xs,y::ys=>if cmpI x y≠0 then cmpI x y else cmpL xs ys
def fewerF(a b:List Int):Int:=if a.length≠b.length then (a.length:Int)-b.length else cmpL a b
theorem c109{h:LH}(x:Int):Pu Tryz.prog 142 #[x] h (.bool false):=by
 refine w109 _ X0_ok ?_;unfold n109;refine t_ret ⟨?_,rfl⟩;simp
theorem c105{h:LH}(x y:Int):Pu Tryz.prog 118 #[x,y] h (.int .i64 (cmpI x y)):=by
 refine w105 _ _ X0_ok ?_;unfold n105;refine t_pu (c109 _) ?_;refine gZ ?_;refine t_pu (c109 _) ?_;refine yF ?_;refine yF ?_;refine t_if (fun e=>?_) (fun e=>?_)
 ·refine t_ret ⟨?_,rfl⟩;rw[cmpI,if_pos e]
 ·refine t_if (fun e'=>?_) (fun e'=>?_)<;>refine t_ret ⟨?_,rfl⟩<;>simp[cmpI,e,e']
theorem c97{h:LH}{p q:Option Addr}{n c m d:Nat}{a b:List Int}(ha:Sl IntE 1 h.get p n a)(hb:Sl IntE 1 h.get q m b):Pu Tryz.prog 85 #[.slice p n c,.slice q m d] h (.int .i64 (cmpL a b)):=by
 refine w97 _ _ _ _ _ _ X0_ok ?_;unfold n97;have hn:=ha.1;have hm:=hb.1;have hbn:=ha.2.1;have hbm:=hb.2.1;refine t_loop (fun mm vs h'=>h=h'/\∃ i:Nat,vs=[.int .i64 0,.int .i64 i]/\i<=n/\i<=m/\mm=n-i/\cmpL a b=cmpL (a.drop i) (b.drop i)) ⟨rfl,0,rfl,Nat.zero_le _,Nat.zero_le _,rfl,rfl⟩ ?_;rintro Y mm vs _ hY ⟨rfl,i,rfl,hi,hi',rfl,hc⟩;refine yJ (fun e1=>?_) (fun e1=>?_)
 ·obtain⟨x,a1,hx,ha1,e2⟩:=ha.at (i:=i) (by omega);unfold IntE at e2;rw[drop_of hx]at hc;refine yJ (fun e3=>?_) (fun e3=>?_)
  ·refine gZ ?_;rw[List.drop_eq_nil_of_le (show b.length<=i by omega),cmpL]at hc;exact t_ret ⟨by rw[hc],rfl⟩
  ·obtain⟨y,b1,hy,hb1,e4⟩:=hb.at (i:=i) (by omega);unfold IntE at e4;rw[drop_of hy,cmpL]at hc;refine gZ ?_;refine t_pu (c105 _ _) ?_;refine yI (fun e5=>?_) (fun e5=>?_)
   ·refine gZ ?_;rw[if_pos (by simpa using e5)]at hc;exact t_ret ⟨by rw[hc],rfl⟩
   ·rw[if_neg (by simpa using e5)]at hc;refine t_again (hY (n-(i+1)) _ _ (by omega) ⟨rfl,i+1,?_,by omega,by omega,rfl,hc⟩);rw[wrap_id (by omega) (by omega)];rfl
 ·refine gZ ?_;rw[List.drop_eq_nil_of_le (show a.length<=i by omega)]at hc;refine t_if (fun e3=>?_) (fun e3=>?_)
  ·obtain⟨y,hy⟩ : ∃ y,b[i]?=some y:=⟨b[i]'(by omega),List.getElem?_eq_getElem (by omega)⟩
   rw[drop_of hy,cmpL]at hc;exact t_ret ⟨by rw[hc],rfl⟩
  ·rw[List.drop_eq_nil_of_le (show b.length<=i by omega),cmpL]at hc;exact t_ret ⟨by rw[hc],rfl⟩
theorem c75{h:LH}{p q:Option Addr}{n c m d:Nat}{a b:List Int}(ha:Sl IntE 1 h.get p n a)(hb:Sl IntE 1 h.get q m b):Pu Tryz.prog 53 #[.slice p n c,.slice q m d] h (.int .i64 (fewerF a b)):=by
 refine w75 _ _ _ _ _ _ X0_ok ?_;unfold n75;have hn:=ha.1;have hm:=hb.1;have hbn:=ha.2.1;have hbm:=hb.2.1;refine t_cond (fun e=>?_) (fun e=>?_)
 ·have e':a.length≠b.length:=by simp at e;omega
  rw[wrap_id (by omega) (by omega)];refine t_ret ⟨?_,rfl⟩;rw[fewerF,if_pos e',hn,hm]
 ·have e':¬ a.length≠b.length:=by simp at e;omega
  refine t_pu (c97 ha hb) ?_;refine gZ ?_;refine t_ret ⟨?_,rfl⟩;rw[fewerF,if_neg e']
end
section
attribute [local irreducible] T.wp CV FWK
def Sent(u:UseFile)(land day:Int)(i:Nat)(v:Value)(hv:Cells):Prop :=
 if enoughB u land day (subsetL u.papers.length i) (leftAll u land day) then ∃ a n c,v=.slice (some a) n c/\Sl IntE 1 hv (some a) n (subsetL u.papers.length i)/\n<=c else v=.slice none 0 0
theorem subset_in{n i:Nat}:∀ v∈subsetL n i,0<=v/\v<(n:Int):=by
 intro v hv;unfold subsetL at hv;obtain⟨j,hj,rfl⟩:=List.mem_map.1 hv;have:=List.mem_range.1 (List.mem_filter.1 hj).1;omega
theorem subset_len{n i:Nat}:(subsetL n i).length<=n:=by
 unfold subsetL;rw[List.length_map];exact Nat.le_trans (List.length_filter_le _ _) (by simp)
theorem bit_test{i j:Nat}(hi:i<2^32):(wrap .i64 (((BitVec.ofInt 64 (Int.fdiv (i:Int) (2^min (j:Int).toNat 64)) &&& BitVec.ofInt 64 1).toNat:Nat):Int)==1)=i.testBit j:=by
 have hq:∃ q:Nat,Int.fdiv (i:Int) (2^min (j:Int).toNat 64)=(q:Int)/\q<=i/\q%2=(i / 2^j)%2:=by
  by_cases hj:j<=64
  ·have hm:min (j:Int).toNat 64=j:=by simp;omega
   refine⟨i / 2^j,?_,Nat.div_le_self _ _,rfl⟩;rw[hm];have:(2^j:Int)=((2^j:Nat):Int):=by simp
   rw[this,<- Int.ofNat_fdiv]
  ·have hm:min (j:Int).toNat 64=64:=by simp;omega
   refine⟨0,?_,Nat.zero_le _,?_⟩
   ·rw[hm];have:(2^64:Int)=((2^64:Nat):Int):=by simp
    rw[this,<- Int.ofNat_fdiv];have:i / 2^64=0:=Nat.div_eq_of_lt (by omega);rw[this]
   ·have:i / 2^j=0:=Nat.div_eq_of_lt (Nat.lt_of_lt_of_le hi (Nat.pow_le_pow_right (by omega) (by omega)));rw[this]
 obtain⟨q,h1,h2,h3⟩:=hq;rw[h1];have a1:(BitVec.ofInt 64 (q:Int)).toNat=q:=by rw[BitVec.toNat_ofInt];omega
 have a2:(BitVec.ofInt 64 1).toNat=1:=rfl;rw[BitVec.toNat_and,a1,a2,Nat.and_one_is_mod,wrap_id (by omega) (by omega),Nat.testBit_eq_decide_div_mod_eq,<- h3];by_cases e:q%2=1
 ·rw[e];rfl
 ·have:q%2=0:=by omega
  rw[this];rfl
theorem subset_take{n i j:Nat}(hj:j<n):((List.range n).take (j+1)).filter (fun j=>i.testBit j)=((List.range n).take j).filter (fun j=>i.testBit j)++(if i.testBit j then [j] else []):=by
 rw[List.take_succ_eq_append_getElem (by simpa using hj),List.filter_append];congr 1;simp[List.filter_cons]
theorem c74{hc:Cells}{c0 i:Nat}{z0 z1 z2 z3 z4 z5:Addr}{f:FileC}{u:UseFile}{land day:Int}(hp:Parts hc)(hu:FileR hc f u)(hat:FileAt hc z0 f u)(hpap:u.papers.length<=8)(hi:i<2^32)(h1:hc.cell? z1=some (.int .i64 (i:Int)))(h2:hc.cell? z2=some (.int .i64 land))(h3:hc.cell? z3=some (.int .i64 day))
 {ap:Option Addr}{an ac:Nat}(h4:hc.cell? z4=some (.slice ap an ac))(hal:Sl IntE 1 hc ap an (leftAll u land day))(h5:hc.cell? z5=some (.chan (some c0))) :
  FWK XW Tryz.prog .deferred 51 #[.pointer (some z0),.pointer (some z1),.pointer (some z2),.pointer (some z3),.pointer (some z4),.pointer (some z5)] ⟨hc,[],[],[(c0,Sent u land day i)]⟩ fun _ _=>False:=by
 refine w74 _ _ _ _ _ _ XW_ok ?_;unfold n74;have hn5:=hu.papers.1;refine t_build0 und50 inf3 fun b0 hb0=>?_;have le0:LH.le ⟨hc,[],[],[(c0,Sent u land day i)]⟩ _:=LH.upd_le (x:=(true,.cells #[] 3 (0,0))) hb0;refine gZ ?_;have g5:=Cells.cell?_le le0.1 hat.f5;refine gL1 g5 ?_;refine t_loop (fun mm vs h'=>LH.le ⟨hc,[],[],[(c0,Sent u land day i)]⟩ h'/\∃ (j:Nat) (a:Addr) (n c:Nat),vs=[.slice (some a) n c,.int .i64 j]/\j<=f.n5/\mm=f.n5-j/\Growing IntEnc 3 1 hc h'.get (some a) n c (((List.range u.papers.length).take j).filter (fun j=>i.testBit j) |>.map fun j:Nat=>(j:Int)))
  ⟨le0,0,_,0,0,rfl,Nat.zero_le _,rfl,⟨[],⟨rfl,.inr ⟨b0,#[],rfl,Cells.upd_self _ _ _,rfl,Nat.le_refl _,fun j v hv=>by simp at hv⟩⟩,.nil⟩,fun a ha=>by cases ha;exact hb0⟩ ?_
 rintro Y mm vs h₁ hY ⟨hle,j,a,n,c,rfl,hj,rfl,g⟩;refine yJ (fun e1=>?_) (fun e1=>?_)
 ·have k1:=Cells.cell?_le hle.1 h1;refine gL0 k1 ?_;refine gZ ?_;rw[bit_test hi];have hst:=subset_take (n:=u.papers.length) (i:=i) (j:=j) (by omega);refine t_cond (fun b=>?_) (fun b=>?_)
  ·rw[if_pos b]at hst;refine t_build und50 inf3 (by decide) (by decide) (cells:=#[.int .i64 (j:Int)]) (by kernel_rfl) fun r hr=>?_;have le2:h₁.le _:=LH.upd_le (x:=(true,.cells #[.int .i64 (j:Int)] 3 (0,0))) hr;have hng:=g.count IntEnc.len (by omega);have hlen:(((List.range u.papers.length).take j).filter (fun j=>i.testBit j)).length<=8:=Nat.le_trans (List.length_filter_le _ _) (by rw[List.length_take,List.length_range];omega);rw[List.length_map]at hng;refine gZ ?_;refine t_grow (h₀:=⟨hc,[],[],[(c0,Sent u land day i)]⟩) (x:=(j:Int)) (ws:=[.int .i64 (j:Int)]) rfl rfl und50 und50 inf3 rfl (by omega) (by omega) (g.le le2.1) (LH.le_trans hle le2) rfl rfl ?_ ?_ ?_
   ·intro j w hj;rw[add_plain,Nat.zero_add];exact cell_upd (by simpa using hj)
   ·intro w hw;simp at hw;subst hw;rfl
   ·intro p' c' h₂ hle2 _ g2;refine gZ ?_;obtain⟨a',rfl⟩ : ∃ a',p'=some a':=by
     obtain⟨vs,⟨_,h6⟩,_⟩:=g2.row;rcases h6 with⟨_,h7,_⟩|⟨r,cs,h7,_⟩
     ·omega
     ·exact⟨_,h7⟩
    refine t_again (hY (f.n5-(j+1)) _ _ (by omega) ⟨hle2,j+1,a',n+1,c',?_,by omega,rfl,by rw[hst,List.map_append];exact g2⟩);rw[wrap_id (by omega) (by omega)];rfl
  ·rw[if_neg (by rw[b];simp),List.append_nil]at hst;refine t_again (hY (f.n5-(j+1)) _ _ (by omega) ⟨hle,j+1,a,n,c,?_,by omega,rfl,by rw[hst];exact g⟩);rw[wrap_id (by omega) (by omega)];rfl
 ·refine gZ ?_;have htake:(((List.range u.papers.length).take j).filter (fun j=>i.testBit j) |>.map fun j:Nat=>(j:Int))=subsetL u.papers.length i:=by
   rw[List.take_of_length_le (by simp;omega)];rfl
  rw[htake]at g;obtain⟨g0,g1,g2,g3,g4,g5,g6⟩:=hat.le hle.1;have k2:=Cells.cell?_le hle.1 h2;have k3:=Cells.cell?_le hle.1 h3;have k4:=Cells.cell?_le hle.1 h4;have k5:=Cells.cell?_le hle.1 h5;refine gZ ?_;have hsub:=subset_len (n:=u.papers.length) (i:=i);have hll:(leftAll u land day).length=u.items.toNat:=by unfold leftAll;rw[List.length_map,List.length_range]
  refine t_gr (c71 (hp.le hle.1) (hu.le hle.1) land day (g.sl IntEnc.len (by omega) IntEnc.e (by omega)) subset_in (by omega) (hal.le IntE.grow hle.1) hll) ?_;rintro _ h₂ le2 rfl;have k5:=Cells.cell?_le le2.1 k5;refine gZ ?_;have hle2:=LH.le_trans hle le2;refine t_cond (fun b=>?_) (fun b=>?_)
  ·refine t_loadC k5 ?_;refine t_comm ?_;refine commW_send (z:=.tuple #[]) (φ:=Sent u land day i) (s:=[]) (hv:=fun _=>none) (hr:=h₂.get) hle2.2.2.2 ?_ (fun r=>.inl rfl) (fun r x hx=>by cases hx) ?_ (fun _=>rfl) (fun h=>absurd rfl h)
   ·funext r;rfl
   ·have b':enoughB u land day (subsetL u.papers.length i) (leftAll u land day)=false:=by simpa using b
    unfold Sent;rw[if_neg (by rw[b'];simp)]
  ·refine t_loadC k5 ?_;refine t_comm ?_;have g7:=g.le le2.1;obtain⟨vs,⟨o1,o2⟩,rows⟩:=g7.row;rcases o2 with⟨o3,_⟩|⟨r,cs,o3,o4,o5,o6,o7⟩
   ·cases o3
   ·cases o3;refine commW_send (z:=.tuple #[]) (φ:=Sent u land day i) (s:=[]) (hv:=fun b=>if b=r then h₂.get b else none) (hr:=fun b=>if b=r then none else h₂.get b) hle2.2.2.2 ?_ (fun b=>?_) (fun b x hx=>?_) ?_ (fun _=>rfl) (fun h=>absurd rfl h)
    ·funext b;unfold Cells.add;by_cases e:b=r
     ·subst e;simp[o4]
     ·simp[e]
    ·by_cases e:b=r
     ·right;simp[e]
     ·left;simp[e]
    ·have hx':(if b=r then h₂.get b else none)=some x:=hx;split at hx'
     ·rename_i e;subst e;rw[o4]at hx';cases hx';rfl
     ·cases hx'
    ·have b':enoughB u land day (subsetL u.papers.length i) (leftAll u land day)=true:=by simpa using b
     unfold Sent;rw[if_pos b'];refine⟨_,_,_,rfl,?_,o6⟩;refine rows.sl IntEnc.len (by omega) IntEnc.e (el:=3) ⟨o1,.inr ⟨r,cs,rfl,?_,o5,o6,o7⟩⟩ (by omega);show (if r=r then h₂.get r else none)=_;rw[if_pos rfl];exact o4
end
end Go.Y
section
namespace Go.TM
variable {P:Program}
theorem t_newSt{X:XP}{Q:Leaf->LH->Prop}{h:LH}{e:TypeId}{v₀ v:Value}{k:Nat->T}(h1:isOne v=true)(hk:∀ r,h.get r=none->(k r).wp X P Q { h with get:=h.get.upd r (true,.cells #[v] e (0,0)) }) :
  (T.new e #[v₀] fun r=>T.store (Addr.add ⟨r,0,none⟩ 0) v (k r)).wp X P Q h:=by
 refine t_new fun r hr=>?_;have own1:(h.get.upd r (true,.cells #[v₀] e (0,0))) r=some (true,.cells #[v₀] e (0,0)):=Cells.upd_self _ _ _;refine t_store h1 ⟨_,own1⟩ (v₀:=v₀) (by show Cells.cell? _ _=_;exact cell_upd rfl) (Go.Y.frozen_plain (i:=0) own1) ?_;have hset:(h.get.upd r (true,.cells #[v₀] e (0,0))).setCell (Addr.add ⟨r,0,none⟩ 0) v=h.get.upd r (true,.cells #[v] e (0,0)):=by
  show Cells.setCell _ ⟨r,0,none⟩ v=_;rw[Go.Y.setCell_upd own1];funext b;unfold Cells.upd;by_cases e:b=r<;>simp[e]
 simp only[hset];exact hk r hr
theorem cell_freeze(F:Nat->Bool)(h:Cells)(a:Addr):(freezeC F h).cell? a=h.cell? a:=by
 unfold Cells.cell? freezeC;cases h a.block with
 | none=>rfl
 | some x=>obtain⟨m,o⟩:=x;cases o<;>rfl
theorem rd_freeze(F:Nat->Bool)(h:Cells):Rd h (freezeC F h):=fun a v hc=>by rw[cell_freeze];exact hc
theorem rd_drop{h:Cells}{c s:Nat}(hs:h c=some (true,.chan 0 #[] false s s false)):Rd h (dropC h c):=by
 intro a v hc;unfold Cells.cell? dropC at *;by_cases e:a.block=c
 ·rw[e,hs]at hc;cases hc
 ·rw[if_neg e];exact hc
def Hand(c0:Nat)(h:LH):Prop:=(h.chans=[]/\∃ s,h.get c0=some (true,.chan 0 #[] false s s false))\/h.chans=[c0]
theorem spawnW_all{f:FuncId}{cap:Array Value}{h:LH}{Q:LH->Prop}(c0:Nat){φ:Value->Cells->Prop}(hgu:[]∉h.pend)(hst:Hand c0 h)(c:∀ hc,Rd h.get hc->FWK XW P .deferred f cap ⟨hc,[],[],[(c0,φ)]⟩ fun _ _=>False)
 (hQ:∀ h',Rd h.get h'.get->h'.chans=[c0]->h'.todo=h.todo->h'.pend=h.pend++[[(c0,φ)]]->Q h'):SpawnW XT P (.func (.func f) #[] cap) #[] h Q:=by
 have key:∀ h1:LH,Rd h.get h1.get->h1.chans=[c0]->h1.todo=h.todo->h1.pend=h.pend->SpawnW XT P (.func (.func f) #[] cap) #[] h1 Q:=by
  intro h1 r1 c1 t1 p1;refine spawnW (fun _=>true) (freezeC (fun _=>true) h1.get) [(c0,φ)] (by simp) (hargs:=cap) (by simp) ?_ (by rw[p1];exact hgu) ?_ (c _ (r1.trans (rd_freeze _ _))) ?_
  ·intro r x hx;refine⟨?_,hx⟩;unfold freezeC at hx;cases hy:h1.get r with
   | none=>rw[hy]at hx;cases hx
   | some y=>rw[hy]at hx;simp at hx;rw[<- hx]
  ·intro y hy;simp at hy;subst hy;rw[c1];simp
  ·exact hQ _ (r1.trans (rd_freeze _ _)) c1 t1 (by show h1.pend++_=_;rw[p1])
 rcases hst with⟨h1,s,h2⟩|h1
 ·refine SpawnW.opened hgu c0 s h2 (key _ (rd_drop h2) ?_ rfl rfl);show c0::h.chans=_;rw[h1]
 ·exact key h (Rd.refl _) h1 rfl rfl
theorem commW_gather{last:Bool}{shape:CommShape}{c0:Nat}{z:Value}{φ:Nat->Value->Cells->Prop}{rem:List Nat}{h:LH}{Q:Value->LH->Prop}(hp:h.pend=rem.map fun i=>[(c0,φ i)])(hc:h.chans=[c0])(hne:rem≠[])
 (hQ:∀ i rest v h₂,i∈rem->(∀ j,j∈rem->j=i\/j∈rest)->(∀ j,j∈rest->j∈rem)->rest.length+1=rem.length->h₂.todo=h.todo->h₂.pend=rest.map (fun i=>[(c0,φ i)])->((rest≠[]/\h₂.chans=[c0])\/(rest=[]/\h₂.chans=[]/\∃ s,h₂.get c0=some (true,.chan 0 #[] false s s false))) ->
   (∃ hv,φ i v hv/\hv.le h₂.get)->h.get.le h₂.get->Q (commResult #[rcase c0 z] shape 0 v true) h₂):CommW XT P last #[rcase c0 z] shape h Q:=by
 refine CommW.closed (commW_recv ?_ (by rw[hp];simpa using hne) ?_ ?_)
 ·intro k cc hk;cases k with
  | zero=>simp at hk;subst hk;exact⟨c0,z,rfl,by rw[hc];simp⟩
  | succ k=>simp at hk
 ·intro s hs;rw[hp]at hs;obtain⟨i,hi,rfl⟩:=List.mem_map.1 hs;exact⟨c0,φ i,[],0,z,rfl,rfl⟩
 ·intro pre ψ s post k c v hv z' hpe hcase hd hown hφ;rw[hp]at hpe;obtain⟨l1,l2,rfl,hl1,hl2⟩:=List.map_eq_append_iff.1 hpe;obtain⟨i,l3,rfl,hi,hl3⟩:=List.map_eq_cons_iff.1 hl2;cases hi;have hk0:k=0:=by
   cases k with
   | zero=>rfl
   | succ k=>simp at hcase
  subst hk0;have le1:h.get.le (h.get.add hv):=Cells.le_add _ _;have le2:hv.le (h.get.add hv):=fun r x hr=>Cells.add_right' hd hr;have hpend:pre++cons' [] post=(l1++l3).map fun i=>[(c0,φ i)]:=by
   show pre++post=_;rw[<- hl1,<- hl3,List.map_append]
  by_cases hn:l1++l3=[]
  ·right;refine⟨c0,by show c0∈h.chans;rw[hc];simp,by show pre++cons' [] post=[];rw[hpend,hn];rfl,fun s hs=>?_⟩;refine hQ i (l1++l3) v _ (by simp) (fun j hj=>?_) (fun j hj=>?_) (by simp;omega) rfl hpend (.inr ⟨hn,?_,s,Cells.upd_self _ _ _⟩) ⟨hv,hφ,?_⟩ ?_
   ·simp at hj ⊢;grind
   ·simp at hj ⊢;grind
   ·show h.chans.filter _=[];rw[hc];simp
   ·exact Cells.le_trans le2 (Cells.le_upd _ hs)
   ·exact Cells.le_trans le1 (Cells.le_upd _ hs)
  ·left;refine hQ i (l1++l3) v _ (by simp) (fun j hj=>?_) (fun j hj=>?_) (by simp;omega) rfl hpend (.inl ⟨hn,hc⟩) ⟨hv,hφ,le2⟩ le1
   ·simp at hj ⊢;grind
   ·simp at hj ⊢;grind
end Go.TM
namespace Go.Y
attribute [local irreducible] T.wp CV FWK
theorem Parts.rd{h h':Cells}(hl:Rd h h')(p:Parts h):Parts h':=fun j hj=>hl _ _ (p j hj)
/-! ### fewerF is an order -/
theorem cmpI_neg(x y:Int):cmpI y x = - cmpI x y:=by unfold cmpI;repeat' split<;>omega
theorem cmpL_neg:∀ a b:List Int,cmpL b a = - cmpL a b:=by
 intro a
 induction a with
 | nil=>intro b;cases b<;>rfl
 | cons x a ih =>
  intro b;cases b with
  | nil=>rfl
  | cons y b =>
   simp only[cmpL];rw[cmpI_neg x y,ih b];by_cases e:cmpI x y=0
   ·simp[e]
   ·rw[if_pos (by omega),if_pos e]
theorem cmpL_trans:∀ a b c:List Int,cmpL a b<=0->cmpL b c<=0->cmpL a c<=0:=by
 intro a
 induction a with
 | nil=>intro b c _ _;cases c<;>simp[cmpL]
 | cons x a ih =>
  intro b c h1 h2;cases b with
  | nil=>simp[cmpL]at h1
  | cons y b =>
   cases c with
   | nil=>simp[cmpL]at h2
   | cons z c =>
    simp only[cmpL]at h1 h2 ⊢;have:=ih b c;unfold cmpI at h1 h2 ⊢;by_cases a1:x<y
    ·by_cases a2:y<z
     ·rw[if_pos (by rw[if_pos (show x<z by omega)];omega),if_pos (show x<z by omega)];omega
     ·by_cases a3:y=z
      ·subst a3;simp[a1]
      ·have:y>z:=by omega
       simp[a2,this]at h2
    ·by_cases a4:x=y
     ·subst a4;simp at h1;by_cases a2:x<z
      ·simp[a2]
      ·by_cases a3:x=z
       ·subst a3;simp at h2 ⊢;exact this h1 h2
       ·have:x>z:=by omega
        simp[a2,this]at h2
     ·have:x>y:=by omega
      simp[a1,this]at h1
theorem fewer_neg(a b:List Int):fewerF b a = - fewerF a b:=by
 unfold fewerF;by_cases e:a.length=b.length
 ·rw[if_neg (by omega),if_neg (by omega),cmpL_neg a b]
 ·rw[if_pos (by omega),if_pos (by omega)];omega
theorem fewer_trans{a b c:List Int}(h1:fewerF a b<=0)(h2:fewerF b c<=0):fewerF a c<=0:=by
 unfold fewerF at *;by_cases e1:a.length=b.length
 ·rw[if_neg (by omega)]at h1;by_cases e2:b.length=c.length
  ·rw[if_neg (by omega)]at h2;rw[if_neg (by omega)];exact cmpL_trans a b c h1 h2
  ·rw[if_pos (by omega)]at h2;rw[if_pos (by omega)];omega
 ·rw[if_pos (by omega)]at h1;by_cases e2:b.length=c.length
  ·rw[if_pos (by omega)];omega
  ·rw[if_pos (by omega)]at h2;rw[if_pos (by omega)];omega
theorem fewer_self(a:List Int):fewerF a a<=0:=by
 have:=fewer_neg a a;omega
def okF(u:UseFile)(land day:Int)(i:Nat):Bool:=enoughB u land day (subsetL u.papers.length i) (leftAll u land day)
def BestR(h:Cells)(u:UseFile)(land day:Int)(rem:List Nat)(p:Option Addr)(n:Nat):Prop :=
 (p=none/\n=0/\∀ j,j<2^u.papers.length->j∉rem->okF u land day j=false) \/
 (∃ i a,p=some a/\i<2^u.papers.length/\okF u land day i=true/\Sl IntE 1 h (some a) n (subsetL u.papers.length i)/\∀ j,j<2^u.papers.length->j∉rem->okF u land day j=true->fewerF (subsetL u.papers.length i) (subsetL u.papers.length j)<=0)
def KeepR(h':Cells)(u:UseFile)(land day:Int)(r:Value):Prop :=
 (openF u [landQ u land,dayQ day]≠0/\r=.tuple #[.slice none 0 0,.int .i64 (openF u [landQ u land,dayQ day])]) \/
 (openF u [landQ u land,dayQ day]=0/\∃ p n c,r=.tuple #[.slice p n c,.int .i64 0]/\BestR h' u land day [] p n/\n<=c)
theorem BestR.skip{h h':Cells}{u:UseFile}{land day:Int}{rem rest:List Nat}{p:Option Addr}{n i:Nat}(b:BestR h u land day rem p n)(hr:∀ j,j∈rem->j=i\/j∈rest)(hi:okF u land day i=false)(hrd:Rd h h'):BestR h' u land day rest p n:=by
 rcases b with⟨h1,h2,h3⟩|⟨k,a,h1,h2,h3,h4,h5⟩
 ·refine .inl ⟨h1,h2,fun j hj hn=>?_⟩;by_cases e:j=i
  ·rw[e];exact hi
  ·exact h3 j hj fun hm=>(hr j hm).elim e hn
 ·refine .inr ⟨k,a,h1,h2,h3,h4.rd IntE.grow hrd,fun j hj hn ho=>?_⟩;by_cases e:j=i
  ·rw[e]at ho;exact absurd ho (by rw[hi];simp)
  ·exact h5 j hj (fun hm=>(hr j hm).elim e hn) ho
theorem BestR.take{h h':Cells}{u:UseFile}{land day:Int}{rem rest:List Nat}{p:Option Addr}{n i n':Nat}{a:Addr}(b:BestR h u land day rem p n)(hr:∀ j,j∈rem->j=i\/j∈rest)(hi:okF u land day i=true)(hlt:i<2^u.papers.length)(hs:Sl IntE 1 h' (some a) n' (subsetL u.papers.length i))
 (hb:p=none\/∀ k,okF u land day k=true->Sl IntE 1 h p n (subsetL u.papers.length k)->fewerF (subsetL u.papers.length i) (subsetL u.papers.length k)<=0):BestR h' u land day rest (some a) n':=by
 rcases b with⟨h1,h2,h3⟩|⟨k,a',h1,h2,h3,h4,h5⟩
 ·refine .inr ⟨i,a,rfl,hlt,hi,hs,fun j hj hn ho=>?_⟩;by_cases e:j=i
  ·rw[e];exact fewer_self _
  ·have:=h3 j hj fun hm=>(hr j hm).elim e hn;rw[this]at ho;cases ho
 ·have hle:=hb.resolve_left (by rw[h1];simp) k h3 (by rw[h1];exact h4);refine .inr ⟨i,a,rfl,hlt,hi,hs,fun j hj hn ho=>?_⟩;by_cases e:j=i
  ·rw[e];exact fewer_self _
  ·exact fewer_trans hle (h5 j hj (fun hm=>(hr j hm).elim e hn) ho)
theorem BestR.stay{h h':Cells}{u:UseFile}{land day:Int}{rem rest:List Nat}{p:Option Addr}{n i:Nat}(b:BestR h u land day rem p n)(hr:∀ j,j∈rem->j=i\/j∈rest)(hp:p≠none)(hrd:Rd h h')
 (hb:∀ k,Sl IntE 1 h p n (subsetL u.papers.length k)->fewerF (subsetL u.papers.length k) (subsetL u.papers.length i)<=0):BestR h' u land day rest p n:=by
 rcases b with⟨h1,h2,h3⟩|⟨k,a',h1,h2,h3,h4,h5⟩
 ·exact absurd h1 hp
 ·refine .inr ⟨k,a',h1,h2,h3,h4.rd IntE.grow hrd,fun j hj hn ho=>?_⟩;by_cases e:j=i
  ·rw[e];exact hb k (by rw[h1];exact h4)
  ·exact h5 j hj (fun hm=>(hr j hm).elim e hn) ho
theorem Sl.same{h:Cells}{p:Option Addr}{n:Nat}{a b:List Int}(ha:Sl IntE 1 h p n a)(hb:Sl IntE 1 h p n b):a=b:=by
 refine List.ext_getElem (by rw[<- ha.1,<- hb.1]) fun i h1 h2=>?_;obtain⟨x,c,e1,e2,e3⟩:=ha.at (i:=i) (by rw[ha.1];exact h1);obtain⟨y,d,e4,e5,e6⟩:=hb.at (i:=i) (by rw[hb.1];exact h2);rw[e2]at e5;cases e5;unfold IntE at e3 e6;rw[e3]at e6;cases e6;rw[List.getElem?_eq_getElem h1]at e1;rw[List.getElem?_eq_getElem h2]at e4;exact(Option.some.inj e1).trans (Option.some.inj e4).symm
theorem sets_wrap{n:Nat}(hn:n<=8):wrap .i64 (1*2^min (Int.toNat (n:Int)) 64)=((2^n:Nat):Int):=by
 have e:min (Int.toNat (n:Int)) 64=n:=by simp;omega
 have h2:(2:Nat)^n<=2^8:=Nat.pow_le_pow_right (by omega) hn;have e2:(1:Int)*2^n=((2^n:Nat):Int):=by simp
 rw[e,e2];generalize 2^n=m at h2;rw[wrap_id (by omega) (by omega)]
theorem c33{h:LH}(hch:h.chans=[])(hpe:h.pend=[]){f:FileC}{u:UseFile}(hp:Parts h.get)(hu:FileR h.get f u)(land day:Int) :
  FW XT Tryz.prog 22 #[fileV f u,land,day] h fun r h'=>Rd h.get h'.get/\h'.chans=[]/\h'.pend=[]/\h'.todo=h.todo/\KeepR h'.get u land day r:=by
 refine w33 _ _ _ _ _ _ _ _ _ _ _ _ _ _ _ XT_ok ?_;unfold n33;refine t_new fun r hr=>?_;have le0:h.le _:=LH.upd_le (x:=(true,.cells #[.int .i64 u.items,.int .i64 u.lands,.int .i64 u.from_,.int .i64 u.idle,.slice f.p4 f.n4 f.c4,.slice f.p5 f.n5 f.c5,.slice f.p6 f.n6 f.c6] 26 (0,0))) hr;have hat:FileAt (h.get.upd r (true,.cells #[.int .i64 u.items,.int .i64 u.lands,.int .i64 u.from_,.int .i64 u.idle,.slice f.p4 f.n4 f.c4,.slice f.p5 f.n5 f.c5,.slice f.p6 f.n6 f.c6] 26 (0,0))) ⟨r,0,none⟩ f u :=
  ⟨cell_upd rfl,cell_upd rfl,cell_upd rfl,cell_upd rfl,cell_upd rfl,cell_upd rfl,cell_upd rfl⟩
 generalize hh0:({ h with get:=h.get.upd r (true,.cells #[.int .i64 u.items,.int .i64 u.lands,.int .i64 u.from_,.int .i64 u.idle,.slice f.p4 f.n4 f.c4,.slice f.p5 f.n5 f.c5,.slice f.p6 f.n6 f.c6] 26 (0,0)) }:LH)=h0 at le0 ⊢;have hat:FileAt h0.get ⟨r,0,none⟩ f u:=by rw[<- hh0];exact hat
 refine t_new fun r1 hr1=>?_;have le1:h0.le _:=LH.upd_le (x:=(true,.cells #[.int .i64 land] 3 (0,0))) hr1;have z1:Cells.cell? (h0.get.upd r1 (true,.cells #[.int .i64 land] 3 (0,0))) ⟨r1,0,none⟩=some (.int .i64 land):=cell_upd rfl;refine t_new fun r2 hr2=>?_;have le2:=LH.upd_le (h:={ h0 with get:=h0.get.upd r1 (true,.cells #[.int .i64 land] 3 (0,0)) }) (x:=(true,.cells #[.int .i64 day] 3 (0,0))) hr2;have z2:Cells.cell? ((h0.get.upd r1 (true,.cells #[.int .i64 land] 3 (0,0))).upd r2 (true,.cells #[.int .i64 day] 3 (0,0))) ⟨r2,0,none⟩=some (.int .i64 day):=cell_upd rfl;have z1:=Cells.cell?_le le2.1 z1;have hat:=hat.le (LH.le_trans le1 le2).1;obtain⟨g0,g1,g2,g3,g4,g5,g6⟩:=id hat;have le02:=LH.le_trans le0 (LH.le_trans le1 le2);refine gZ ?_;refine t_gr (c58 u land) ?_;rintro v0 h₁ le3 ⟨q0,a0⟩;have z1:=Cells.cell?_le le3.1 z1;have z2:=Cells.cell?_le le3.1 z2;have hat:=hat.le le3.1;obtain⟨g0,g1,g2,g3,g4,g5,g6⟩:=id hat;refine gZ ?_;refine t_gr (c54 u day) ?_;rintro v1 h₂ le4 ⟨q1,a1⟩;have z1:=Cells.cell?_le le4.1 z1;have z2:=Cells.cell?_le le4.1 z2;have hat:=hat.le le4.1;obtain⟨g0,g1,g2,g3,g4,g5,g6⟩:=id hat;refine gZ ?_;refine asks2 q0 (a0.le le4) q1 a1 fun r' h₃ le5 hs=>?_;have z1:=Cells.cell?_le le5.1 z1;have z2:=Cells.cell?_le le5.1 z2;have hat:=hat.le le5.1;obtain⟨g0,g1,g2,g3,g4,g5,g6⟩:=id hat;refine gZ ?_;have le03:=LH.le_trans le02 (LH.le_trans (LH.le_trans le3 le4) le5);refine t_call (FW.top (c53 (f:=f) (hp.le le03.1) (hu.le le03.1) hs)) ?_;rintro v h₄ ⟨le6,⟨hne,rfl⟩|⟨ho,d,m,rfl,hd,hm,k⟩⟩
 ·refine gZ ?_;have le04:=LH.le_trans le03 le6;refine t_cond (fun _=>?_) (fun e=>absurd (by simpa using e) hne);exact t_ret ⟨Rd.of_le le04.1,by rw[le04.2.1,hch],by rw[le04.2.2.1,hpe],le04.2.2.2,.inl ⟨hne,rfl⟩⟩
 refine yF ?_;have hck:=(open_num ho).2;have z1':=Cells.cell?_le le6.1 z1;have z2':=Cells.cell?_le le6.1 z2;refine gZ ?_;refine t_de (c63 k hck land day) ?_;rintro _ h₅ mv k5 ⟨p0,n0,c0,rfl,gl⟩;have le35:=Mv.le_of le6 hm mv;have le05:=LH.le_trans le03 le35;have hitn:=(num_ok (open_num ho).1).1;have hll:(leftAll u land day).length=u.items.toNat:=by unfold leftAll;rw[List.length_map,List.length_range]
 have hsl:Sl IntE 1 h₅.get p0 n0 (leftAll u land day):=gl.sl IntEnc.len (by omega) IntEnc.e (by omega);have hpap:=(check_papers hck).1;have hu5:=hu.le le05.1;have hn5:=hu5.papers.1;refine gZ ?_;refine t_newSt rfl fun r3 hr3=>?_;have le7:=LH.upd_le (x:=(true,.cells #[.slice p0 n0 c0] 66 (0,0))) hr3;have z3:Cells.cell? (h₅.get.upd r3 (true,.cells #[.slice p0 n0 c0] 66 (0,0))) ⟨r3,0,none⟩=some (.slice p0 n0 c0):=cell_upd rfl;refine t_makeChan und104 inf50 fun q hq=>?_;have le8:=LH.upd_le (x:=(true,.chan 0 #[] false 0 0 false)) hq;refine t_unC ?_;refine t_newSt rfl fun r4 hr4=>?_;have le9:=LH.upd_le (x:=(true,.cells #[.chan (some q)] 114 (0,0))) hr4;have le38:=LH.le_trans le35 (LH.le_trans (LH.le_trans le7 le8) le9);have z1:=Cells.cell?_le le38.1 z1;have z2:=Cells.cell?_le le38.1 z2;have z3:=Cells.cell?_le (LH.le_trans le8 le9).1 z3;have hat:=hat.le le38.1;obtain⟨g0,g1,g2,g3,g4,g5,g6⟩:=id hat;have hsl:=hsl.le IntE.grow (LH.le_trans (LH.le_trans le7 le8) le9).1;have le08:=LH.le_trans le03 le38;have z4:Cells.cell? (((h₅.get.upd r3 (true,.cells #[.slice p0 n0 c0] 66 (0,0))).upd q (true,.chan 0 #[] false 0 0 false)).upd r4 (true,.cells #[.chan (some q)] 114 (0,0))) ⟨r4,0,none⟩=some (.chan (some q)):=cell_upd rfl;have hq':=le9.1 q _ (Cells.upd_self _ _ _);refine gL1 g5 ?_;have h256:2^f.n5<=2^8:=Nat.pow_le_pow_right (by omega) (by omega);have hNe:(2:Nat)^f.n5=2^u.papers.length:=by rw[hn5]
 rw[sets_wrap (by omega)];generalize hN:(2:Nat)^f.n5=N at h256 hNe ⊢;refine gZ ?_;refine t_loop (fun mm vs h'=>∃ j:Nat,vs=[.int .i64 j]/\j<=N/\mm=N-j/\Rd (((h₅.get.upd r3 (true,.cells #[.slice p0 n0 c0] 66 (0,0))).upd q (true,.chan 0 #[] false 0 0 false)).upd r4 (true,.cells #[.chan (some q)] 114 (0,0))) h'.get/\h'.todo=h.todo/\h'.pend=(List.range j).map (fun i=>[(q,Sent u land day i)])/\Hand q h'/\(0<j->h'.chans=[q]))
  ⟨0,rfl,Nat.zero_le _,rfl,Rd.refl _,le08.2.2.2,by rw[le08.2.2.1,hpe];rfl,.inl ⟨by rw[le08.2.1,hch],0,hq'⟩,fun hh=>absurd hh (by omega)⟩ ?_
 rintro Y mm vs h₇ hY ⟨j,rfl,hj,rfl,rd7,td7,pd7,hand7,ch7⟩;refine yJ (fun e1=>?_) (fun e1=>?_)
 ·refine t_newSt rfl fun r5 hr5=>?_;have le10:=LH.upd_le (x:=(true,.cells #[.int .i64 (j:Int)] 3 (0,0))) hr5;have z5:Cells.cell? (h₇.get.upd r5 (true,.cells #[.int .i64 (j:Int)] 3 (0,0))) ⟨r5,0,none⟩=some (.int .i64 (j:Int)):=cell_upd rfl;have hand8:Hand q { h₇ with get:=h₇.get.upd r5 (true,.cells #[.int .i64 (j:Int)] 3 (0,0)) }:=by
   rcases hand7 with⟨a1,s,a2⟩|a1
   ·exact .inl ⟨a1,s,le10.1 _ _ a2⟩
   ·exact .inr a1
  have rd8:=rd7.trans (Rd.of_le le10.1);refine t_spawn (spawnW_all q (φ:=Sent u land day j) (by show []∉h₇.pend;rw[pd7];simp) hand8 (fun hc hrd=>?_) (fun h₈ r8 c8 t8 p8=>?_))
  ·have rdc:=rd8.trans hrd;exact c74 ((hp.le le08.1).rd rdc) ((hu.le le08.1).rd rdc) (hat.rd rdc) hpap (by omega) (hrd _ _ z5) (rdc _ _ z1) (rdc _ _ z2) (rdc _ _ z3) (hsl.rd IntE.grow rdc) (rdc _ _ z4)
  ·refine t_again (hY (N-(j+1)) _ _ (by omega) ⟨j+1,?_,by omega,rfl,rd8.trans r8,t8.trans td7,?_,.inr c8,fun _=>c8⟩)
   ·rw[wrap_id (by omega) (by omega)];rfl
   ·rw[p8,pd7,List.range_succ,List.map_append];rfl
 ·refine gZ ?_;have hjN:j=N:=by omega
  subst hjN;have hpos:0<j:=by rw[hNe];exact Nat.pow_pos (by omega)
  refine t_loop (fun mm vs h'=>∃ (k:Nat) (rem:List Nat) (p:Option Addr) (n c:Nat),vs=[.slice p n c,.int .i64 k]/\rem.length+k=j/\mm=j-k/\(∀ i∈rem,i<j)/\Rd (((h₅.get.upd r3 (true,.cells #[.slice p0 n0 c0] 66 (0,0))).upd q (true,.chan 0 #[] false 0 0 false)).upd r4 (true,.cells #[.chan (some q)] 114 (0,0))) h'.get/\h'.todo=h.todo/\h'.pend=rem.map (fun i=>[(q,Sent u land day i)]) /\
    ((rem≠[]/\h'.chans=[q])\/(rem=[]/\h'.chans=[]/\∃ s,h'.get q=some (true,.chan 0 #[] false s s false)))/\BestR h'.get u land day rem p n/\n<=c)
   ⟨0,List.range j,none,0,0,rfl,by simp,rfl,fun i hi=>List.mem_range.1 hi,rd7,td7,pd7,.inl ⟨by simp;omega,ch7 hpos⟩,.inl ⟨rfl,rfl,fun i hi hn=>absurd (List.mem_range.2 (by omega)) hn⟩,Nat.le_refl _⟩ ?_
  rintro Y2 mm vs h₈ hY2 ⟨k,rem,p,n,c,rfl,hk,rfl,hrem,rd8,td8,pd8,hst8,best,hcap⟩;refine yJ (fun e2=>?_) (fun e2=>?_)
  ·have hne:rem≠[]:=by rintro rfl;simp at hk;omega
   have hc8:h₈.chans=[q]:=by
    rcases hst8 with⟨_,a⟩|⟨a,_⟩
    ·exact a
    ·exact absurd a hne
   refine t_loadC (rd8 _ _ z4) ?_;refine t_comm (commW_gather (φ:=Sent u land day) pd8 hc8 hne ?_);intro i rest v h₉ hi h1 h2 hlen ht hpd hst ⟨hv,hsent,hle⟩ hle9;have hcr:commResult #[Conc.rcase q (.slice none 0 0)] (CommShape.recv false) 0 v true=v:=rfl;rw[hcr];have rd9:=Rd.of_le hle9;have next:∀ p' n' c',BestR h₉.get u land day rest p' n'->n'<=c'->Y2 [.slice p' n' c',.int .i64 (wrap .i64 ((k:Int)+1))] h₉:=by
    intro p' n' c' hb hcap';refine hY2 (j-(k+1)) _ _ (by omega) ⟨k+1,rest,p',n',c',?_,by omega,rfl,fun i hi=>hrem i (h2 i hi),rd8.trans rd9,ht.trans td8,hpd,hst,hb,hcap'⟩;rw[wrap_id (by omega) (by omega)];rfl
   change (if okF u land day i=true then _ else _)at hsent;by_cases ok:okF u land day i=true
   ·rw[if_pos ok]at hsent;obtain⟨a,n',c',rfl,hs9,hcap9⟩:=hsent;have hs9:=hs9.rd IntE.grow (Rd.of_le hle);refine gZ ?_;refine t_neNil und50 ?_;refine yT ?_;refine t_eqNil und50 ?_;refine yI (fun b=>?_) (fun b=>?_)
    ·exact t_again (next _ _ _ (best.take h1 ok (by have:=hrem i hi;omega) hs9 (.inl (by simpa using b))) hcap9)
    ·have hpn:p≠none:=by rintro rfl;cases b
     obtain⟨k',a',hk',hs'⟩ : ∃ k' a',p=some a'/\Sl IntE 1 h₈.get (some a') n (subsetL u.papers.length k'):=by
      rcases best with⟨b1,_⟩|⟨k',a',b1,_,_,b4,_⟩
      ·exact absurd b1 hpn
      ·exact⟨k',a',b1,b4⟩
     subst hk';have hs'9:=hs'.rd IntE.grow rd9;refine t_pu (c75 hs9 hs'9) ?_;have same:∀ k2,Sl IntE 1 h₈.get (some a') n (subsetL u.papers.length k2)->subsetL u.papers.length k2=subsetL u.papers.length k':=by
      intro k2 h3;exact Sl.same h3 hs'
     refine yJ (fun e3=>?_) (fun e3=>?_)
     ·refine t_again (next _ _ _ (best.take h1 ok (by have:=hrem i hi;omega) hs9 (.inr fun k2 _ h3=>?_)) hcap9);rw[same k2 h3];omega
     ·refine t_again (next _ _ _ (best.stay h1 hpn rd9 fun k2 h3=>?_) hcap);rw[same k2 h3,fewer_neg];omega
   ·rw[if_neg ok]at hsent;subst hsent;refine gZ ?_;refine t_neNil und50 ?_;refine yF ?_;exact t_again (next _ _ _ (best.skip h1 (by simpa using ok) rd9) hcap)
  ·refine gZ ?_;have hrem0:rem=[]:=List.length_eq_zero_iff.1 (by omega);subst hrem0;obtain⟨hc8,s,hq8⟩ : h₈.chans=[]/\∃ s,h₈.get q=some (true,.chan 0 #[] false s s false):=by
    rcases hst8 with⟨a,_⟩|⟨_,a,b⟩
    ·exact absurd rfl a
    ·exact⟨a,b⟩
   refine t_loadC (rd8 _ _ z4) ?_;refine t_close hq8 ?_;have rd9:Rd h₈.get (h₈.get.upd q (true,.chan 0 #[] true s s false)):=by
    intro a v hc;have hne:a.block≠q:=by
     intro e;unfold Cells.cell? at hc;rw[e,hq8]at hc;cases hc
    unfold Cells.cell? at hc ⊢;rw[Cells.upd_ne _ _ hne];exact hc
   have b9:BestR (h₈.get.upd q (true,.chan 0 #[] true s s false)) u land day [] p n:=by
    rcases best with b1|⟨k2,a,b1,b2,b3,b4,b5⟩
    ·exact .inl b1
    ·exact .inr ⟨k2,a,b1,b2,b3,b4.rd IntE.grow rd9,b5⟩
   exact t_ret ⟨((Rd.of_le le08.1).trans rd8).trans rd9,hc8,pd8,td8,.inr ⟨ho,p,n,c,rfl,b9,hcap⟩⟩
end Go.Y
end
namespace Go.Y
section
set_option linter.unusedVariables false
variable {X:XP} {h:LH} {A:Value->LH->Prop}
def n16  : T:=.cl 16 #[] fun v=>.unAgg v fun l=>.pi l fun n vs=>.pi vs fun n_1 vs=>.pi vs fun n_2 vs=>.pi vs fun n_3 vs=>.popS vs fun a n_4 c vs=>.popS vs fun a_1 n_5 c_1 vs=>.popS vs fun a_2 n_6 c_2 vs=>.unNil vs (.cT 17 #[.agg #[n,n_1,n_2,n_3,.slice a n_4 c,.slice a_1 n_5 c_1,.slice a_2 n_6 c_2],.int .i64 20] fun v vs=>.unAgg v fun l=>.pi l fun n_7 vs_1=>.pi vs_1 fun n_8 vs_2=>.unNil vs_2 (.unCons vs fun v vs=>.ui v fun n_9=>.unNil vs (.cT 17 #[.agg #[n,n_1,n_2,n_3,.slice a n_4 c,.slice a_1 n_5 c_1,.slice a_2 n_6 c_2],.int .i64 25] fun v vs=>.unAgg v fun l=>.pi l fun n_10 vs_3=>.pi vs_3 fun n_11 vs_4=>.unNil vs_4 (.unCons vs fun v vs=>.ui v fun n_12=>.unNil vs (.cT 18 #[.agg #[n,n_1,n_2,n_3,.slice a n_4 c,.slice a_1 n_5 c_1,.slice a_2 n_6 c_2],.int .i64 0,.int .i64 1,.int .i64 16] fun v vs=>.ui v fun n_13=>.unCons vs fun v vs=>.ui v fun n_14=>.unNil vs (.cT 18 #[.agg #[n,n_1,n_2,n_3,.slice a n_4 c,.slice a_1 n_5 c_1,.slice a_2 n_6 c_2],.int .i64 0,.int .i64 1,.int .i64 18] fun v vs=>.ui v fun n_15=>.unCons vs fun v vs=>.ui v fun n_16=>.unNil vs (.cT 18 #[.agg #[n,n_1,n_2,n_3,.slice a n_4 c,.slice a_1 n_5 c_1,.slice a_2 n_6 c_2],.int .i64 0,.int .i64 1,.int .i64 19] fun v vs=>.ui v fun n_17=>.unCons vs fun v vs=>.ui v fun n_18=>.unNil vs (.cT 19 #[.agg #[n,n_1,n_2,n_3,.slice a n_4 c,.slice a_1 n_5 c_1,.slice a_2 n_6 c_2],.int .i64 0,.int .i64 1] fun v vs=>.ui v fun n_19=>.unCons vs fun v vs=>.ui v fun n_20=>.unNil vs (.cT 19 #[.agg #[n,n_1,n_2,n_3,.slice a n_4 c,.slice a_1 n_5 c_1,.slice a_2 n_6 c_2],.int .i64 1,.int .i64 2] fun v vs=>.ui v fun n_21=>.unCons vs fun v vs=>.ui v fun n_22=>.unNil vs (.cT 20 #[.agg #[n,n_1,n_2,n_3,.slice a n_4 c,.slice a_1 n_5 c_1,.slice a_2 n_6 c_2],.int .i64 0,.int .i64 25] fun v vs=>.unS v fun a_3 n_23 c_3=>.unCons vs fun v vs=>.ui v fun n_24=>.unNil vs (.cT 21 #[.agg #[n,n_1,n_2,n_3,.slice a n_4 c,.slice a_1 n_5 c_1,.slice a_2 n_6 c_2],.int .i64 0,.int .i64 20] fun v vs=>.unS v fun a_4 n_25 c_4=>.unCons vs fun v vs=>.ui v fun n_26=>.unNil vs (.cT 22 #[.agg #[n,n_1,n_2,n_3,.slice a n_4 c,.slice a_1 n_5 c_1,.slice a_2 n_6 c_2],.int .i64 0,.int .i64 25] fun v vs=>.unS v fun a_5 n_27 c_5=>.unCons vs fun v vs=>.ui v fun n_28=>.unNil vs (.sem false (Instr.buildSlice 29 2 #[(0,.int .i64 0),(1,.int .i64 2)]) fun v=>.unS v fun a_6 n_29 c_6=>.cT 23 #[.agg #[n,n_1,n_2,n_3,.slice a n_4 c,.slice a_1 n_5 c_1,.slice a_2 n_6 c_2],.int .i64 0,.int .i64 25,.slice a_6 n_29 c_6] fun v vs=>.unB v fun b=>.unCons vs fun v vs=>.ui v fun n=>.unNil vs (.blk (bif n_9 != 0 then .rn [false] else bif n_12 != 0 then .rn [false] else bif n_14 != 0 then .rn [false] else bif n_16 != 0 then .rn [false] else bif n_18 != 0 then .rn [false] else bif n_20 != 0 then .rn [false] else bif n_22 != 0 then .rn [false] else bif n_24 != 0 then .rn [false] else bif n_26 != 0 then .rn [false] else bif n_28 != 0 then .rn [false] else bif n != 0 then .rn [false] else .ag [false]) (fun vs=>.popB vs fun b_1 vs=>.unNil vs (.blk (.cl 24 #[.int .i64 16,.int .i64 20] fun v=>.unAgg v fun l=>.pi l fun n vs=>.pi vs fun n_30 vs=>.unNil vs (.nd (.agg #[n_7,n_8]) (.sem false (Sem.bind (eqGuard BinOp.neq 28 (Operand.tmp 123) (Operand.tmp 124) (.agg #[n_7,n_8]) (.agg #[n,n_30])) fun __r=>binOp BinOp.neq 28 (.agg #[n_7,n_8]) (.agg #[n,n_30])) fun v=>.unB v fun b_2=>bif b_2 then .nds [.U,true,true,true,true,true,true,true,true,true,true,true,true,true,true,true,.U,true,.U,true,true,true,true,true,true,true,true,.U,true,true] (.nds [true,true,true,true,true,true,.U,true,true,true,true,true,true,true] (.rn [false])) else .cl 24 #[.int .i64 18,.int .i64 25] fun v=>.unAgg v fun l=>.pi l fun n vs=>.pi vs fun n_31 vs=>.unNil vs (.nd (.agg #[n_10,n_11]) (.sem false (Sem.bind (eqGuard BinOp.neq 28 (Operand.tmp 127) (Operand.tmp 128) (.agg #[n_10,n_11]) (.agg #[n,n_31])) fun __r=>binOp BinOp.neq 28 (.agg #[n_10,n_11]) (.agg #[n,n_31])) fun v=>.unB v fun b_3=>bif b_3 then .nds [b_3,true,b_3,true,true,b_3,true,true,true,b_3,true,true,true,true,b_3,.U,true,.U,true,true,true,true,true,true,b_3,true,.U,true,true,true] (.nds [true,true,true,b_3,true,.U,true,true,true,true,true,true,b_3] (.rn [false])) else bif n_13 != 1 then .nds [.B (n_13 != 1),.B (n_13 != 1),n_13] (.nf b_3 false (.nds [b_3,true,.B (n_13 != 1),.B (n_13 != 1),n_13] (.nf b_3 false (.nds [b_3,true,true,.B (n_13 != 1),.B (n_13 != 1),n_13] (.nf b_3 false (.nds [b_3,true,true,true,.B (n_13 != 1),.B (n_13 != 1),n_13] (.nf b_3 false (.nds [b_3,.U,true,.U,true,true,true,true,true,.B (n_13 != 1),.B (n_13 != 1),n_13] (.nf b_3 false (.nds [b_3,true,.U,true,true,true,true,true,.B (n_13 != 1),.B (n_13 != 1),n_13] (.nf b_3 false (.nds [b_3,true,.U,true,true,true,true,true,.B (n_13 != 1),.B (n_13 != 1),n_13] (.nf b_3 false (.nd b_3 (.rn [false]))))))))))))))) else bif n_15 != 0 then .nds [.B (n_15 != 0),.B (n_15 != 0),n_15] (.nf (n_13 != 1) false (.nds [.B (n_13 != 1),.B (n_13 != 1),n_13] (.nf b_3 false (.nds [b_3,true,.B (n_15 != 0),.B (n_15 != 0),n_15] (.nf (n_13 != 1) false (.nds [.B (n_13 != 1),.B (n_13 != 1),n_13] (.nf b_3 false (.nds [b_3,true,true,.B (n_15 != 0),.B (n_15 != 0),n_15] (.nf (n_13 != 1) false (.nds [.B (n_13 != 1),.B (n_13 != 1),n_13] (.nf b_3 false (.nds [b_3,.U,true,.U,true,true,true,true,.B (n_15 != 0),.B (n_15 != 0),n_15] (.nf (n_13 != 1) false (.nds [.B (n_13 != 1),.B (n_13 != 1),n_13] (.nf b_3 false (.nds [b_3,true,.U,true,true,true,true,.B (n_15 != 0),.B (n_15 != 0),n_15] (.nf (n_13 != 1) false (.nds [.B (n_13 != 1),.B (n_13 != 1),n_13] (.nf b_3 false (.nds [b_3,true,.U,true,true,true,true,.B (n_15 != 0),.B (n_15 != 0),n_15] (.nf (n_13 != 1) false (.nds [.B (n_13 != 1),.B (n_13 != 1),n_13] (.nf b_3 false (.nd b_3 (.rn [false]))))))))))))))))))))))))) else bif n_17 != 2 then .nds [.B (n_17 != 2),.B (n_17 != 2),n_17] (.nf (n_15 != 0) false (.nds [.B (n_15 != 0),.B (n_15 != 0),n_15] (.nf (n_13 != 1) false (.nds [.B (n_13 != 1),.B (n_13 != 1),n_13] (.nf b_3 false (.nds [b_3,true,.B (n_17 != 2),.B (n_17 != 2),n_17] (.nf (n_15 != 0) false (.nds [.B (n_15 != 0),.B (n_15 != 0),n_15] (.nf (n_13 != 1) false (.nds [.B (n_13 != 1),.B (n_13 != 1),n_13] (.nf b_3 false (.nds [b_3,.U,true,.U,true,true,true,.B (n_17 != 2),.B (n_17 != 2),n_17] (.nf (n_15 != 0) false (.nds [.B (n_15 != 0),.B (n_15 != 0),n_15] (.nf (n_13 != 1) false (.nds [.B (n_13 != 1),.B (n_13 != 1),n_13] (.nf b_3 false (.nds [b_3,true,.U,true,true,true,.B (n_17 != 2),.B (n_17 != 2),n_17] (.nf (n_15 != 0) false (.nds [.B (n_15 != 0),.B (n_15 != 0),n_15] (.nf (n_13 != 1) false (.nds [.B (n_13 != 1),.B (n_13 != 1),n_13] (.nf b_3 false (.nds [b_3,true,.U,true,true,true,.B (n_17 != 2),.B (n_17 != 2),n_17] (.nf (n_15 != 0) false (.nds [.B (n_15 != 0),.B (n_15 != 0),n_15] (.nf (n_13 != 1) false (.nds [.B (n_13 != 1),.B (n_13 != 1),n_13] (.nf b_3 false (.nd b_3 (.rn [false]))))))))))))))))))))))))))))))) else bif n_19 != 17 then .nds [.B (n_19 != 17),.B (n_19 != 17),n_19] (.nf (n_17 != 2) false (.nds [.B (n_17 != 2),.B (n_17 != 2),n_17] (.nf (n_15 != 0) false (.nds [.B (n_15 != 0),.B (n_15 != 0),n_15] (.nf (n_13 != 1) false (.nds [.B (n_13 != 1),.B (n_13 != 1),n_13] (.nf b_3 false (.nds [b_3,.U,true,.U,true,true,.B (n_19 != 17),.B (n_19 != 17),n_19] (.nf (n_17 != 2) false (.nds [.B (n_17 != 2),.B (n_17 != 2),n_17] (.nf (n_15 != 0) false (.nds [.B (n_15 != 0),.B (n_15 != 0),n_15] (.nf (n_13 != 1) false (.nds [.B (n_13 != 1),.B (n_13 != 1),n_13] (.nf b_3 false (.nds [b_3,true,.U,true,true,.B (n_19 != 17),.B (n_19 != 17),n_19] (.nf (n_17 != 2) false (.nds [.B (n_17 != 2),.B (n_17 != 2),n_17] (.nf (n_15 != 0) false (.nds [.B (n_15 != 0),.B (n_15 != 0),n_15] (.nf (n_13 != 1) false (.nds [.B (n_13 != 1),.B (n_13 != 1),n_13] (.nf b_3 false (.nds [b_3,true,.U,true,true,.B (n_19 != 17),.B (n_19 != 17),n_19] (.nf (n_17 != 2) false (.nds [.B (n_17 != 2),.B (n_17 != 2),n_17] (.nf (n_15 != 0) false (.nds [.B (n_15 != 0),.B (n_15 != 0),n_15] (.nf (n_13 != 1) false (.nds [.B (n_13 != 1),.B (n_13 != 1),n_13] (.nf b_3 false (.nd b_3 (.rn [false]))))))))))))))))))))))))))))))))) else bif n_21 != 15 then .nds [.U,true,.U] (.nf (n_21 != 15) true (.nds [.B (n_21 != 15),.B (n_21 != 15),n_21] (.nf (n_19 != 17) false (.nds [.B (n_19 != 17),.B (n_19 != 17),n_19] (.nf (n_17 != 2) false (.nds [.B (n_17 != 2),.B (n_17 != 2),n_17] (.nf (n_15 != 0) false (.nds [.B (n_15 != 0),.B (n_15 != 0),n_15] (.nf (n_13 != 1) false (.nds [.B (n_13 != 1),.B (n_13 != 1),n_13] (.nf b_3 false (.nds [b_3,true,.U] (.nf (n_21 != 15) true (.nds [.B (n_21 != 15),.B (n_21 != 15),n_21] (.nf (n_19 != 17) false (.nds [.B (n_19 != 17),.B (n_19 != 17),n_19] (.nf (n_17 != 2) false (.nds [.B (n_17 != 2),.B (n_17 != 2),n_17] (.nf (n_15 != 0) false (.nds [.B (n_15 != 0),.B (n_15 != 0),n_15] (.nf (n_13 != 1) false (.nds [.B (n_13 != 1),.B (n_13 != 1),n_13] (.nf b_3 false (.nds [b_3,true,.U] (.nf (n_21 != 15) true (.nds [.B (n_21 != 15),.B (n_21 != 15),n_21] (.nf (n_19 != 17) false (.nds [.B (n_19 != 17),.B (n_19 != 17),n_19] (.nf (n_17 != 2) false (.nds [.B (n_17 != 2),.B (n_17 != 2),n_17] (.nf (n_15 != 0) false (.nds [.B (n_15 != 0),.B (n_15 != 0),n_15] (.nf (n_13 != 1) false (.nds [.B (n_13 != 1),.B (n_13 != 1),n_13] (.nf b_3 false (.nd b_3 (.rn [false]))))))))))))))))))))))))))))))))))))) else bif b then .nds [.U,b,b] (.nf (n_21 != 15) false (.nds [.B (n_21 != 15),.B (n_21 != 15),n_21] (.nf (n_19 != 17) false (.nds [.B (n_19 != 17),.B (n_19 != 17),n_19] (.nf (n_17 != 2) false (.nds [.B (n_17 != 2),.B (n_17 != 2),n_17] (.nf (n_15 != 0) false (.nds [.B (n_15 != 0),.B (n_15 != 0),n_15] (.nf (n_13 != 1) false (.nds [.B (n_13 != 1),.B (n_13 != 1),n_13] (.nf b_3 false (.nds [b_3,b,b] (.nf (n_21 != 15) false (.nds [.B (n_21 != 15),.B (n_21 != 15),n_21] (.nf (n_19 != 17) false (.nds [.B (n_19 != 17),.B (n_19 != 17),n_19] (.nf (n_17 != 2) false (.nds [.B (n_17 != 2),.B (n_17 != 2),n_17] (.nf (n_15 != 0) false (.nds [.B (n_15 != 0),.B (n_15 != 0),n_15] (.nf (n_13 != 1) false (.nds [.B (n_13 != 1),.B (n_13 != 1),n_13] (.nf b_3 false (.nds [b_3,b,b] (.nf (n_21 != 15) false (.nds [.B (n_21 != 15),.B (n_21 != 15),n_21] (.nf (n_19 != 17) false (.nds [.B (n_19 != 17),.B (n_19 != 17),n_19] (.nf (n_17 != 2) false (.nds [.B (n_17 != 2),.B (n_17 != 2),n_17] (.nf (n_15 != 0) false (.nds [.B (n_15 != 0),.B (n_15 != 0),n_15] (.nf (n_13 != 1) false (.nds [.B (n_13 != 1),.B (n_13 != 1),n_13] (.nf b_3 false (.nd b_3 (.rn [false]))))))))))))))))))))))))))))))))))))) else .sem false (Instr.buildSlice 29 1 #[(0,.int .i64 1)]) fun v=>.unS v fun a n c=>.nds [.S a_5 n_27 c_5,b,b] (.nf (n_21 != 15) false (.nds [.B (n_21 != 15),.B (n_21 != 15),n_21] (.nf (n_19 != 17) false (.nds [.B (n_19 != 17),.B (n_19 != 17),n_19] (.nf (n_17 != 2) false (.nds [.B (n_17 != 2),.B (n_17 != 2),n_17] (.nf (n_15 != 0) false (.nds [.B (n_15 != 0),.B (n_15 != 0),n_15] (.nf (n_13 != 1) false (.nds [.B (n_13 != 1),.B (n_13 != 1),n_13] (.nf b_3 false (.nd b_3 (.cB 25 #[.slice a_5 n_27 c_5,.slice a n c] fun b_4=>.nds [b,b] (.nf (n_21 != 15) false (.nds [.B (n_21 != 15),.B (n_21 != 15),n_21] (.nf (n_19 != 17) false (.nds [.B (n_19 != 17),.B (n_19 != 17),n_19] (.nf (n_17 != 2) false (.nds [.B (n_17 != 2),.B (n_17 != 2),n_17] (.nf (n_15 != 0) false (.nds [.B (n_15 != 0),.B (n_15 != 0),n_15] (.nf (n_13 != 1) false (.nds [.B (n_13 != 1),.B (n_13 != 1),n_13] (.nf b_3 false (.nd b_3 (bif !b_4 then .rn [false] else .ag [b_1]))))))))))))))))))))))))))))))) (fun vs=>.popB vs fun b vs=>.unNil vs (.sem false (Instr.buildSlice 66 3 #[(0,.int .i64 1),(1,.int .i64 2),(2,.int .i64 0)]) fun v=>.unS v fun a n c=>.cB 26 #[.slice a_3 n_23 c_3,.slice a n c] fun b=>bif b then .cl 24 #[.int .i64 16,.int .i64 20] fun v=>.unAgg v fun l=>.pi l fun n vs=>.pi vs fun n_30 vs=>.unNil vs (.cl 24 #[.int .i64 16,.int .i64 20] fun v=>.unAgg v fun l=>.pi l fun n_31 vs=>.pi vs fun n_32 vs=>.unNil vs (.sem false (Instr.buildSlice 69 2 #[(0,.agg #[.int .i64 1,.int .i64 0,n,n_30]),(1,.agg #[.int .i64 2,.int .i64 0,n_31,n_32])]) fun v=>.unS v fun a n c=>.cB 27 #[.slice a_4 n_25 c_4,.slice a n c] fun b=>.rt (.bool b))) else .rt (.bool false))) (fun vs=>.popB vs fun b vs=>.unNil vs (.rt (.bool b))) fun x x_1=>.fail)) (fun vs=>.popB vs fun b vs=>.unNil vs (.rt (.bool b))) fun x x_1=>.fail))))))))))))))
theorem w16  : FX X 6 #[] h A (n16):=fk [1,2,4] [] [⟨17,[(0,.bool)],[1,2,4],[],[],[]⟩,⟨15,[(0,.bool)],[1,2,4],[],[],[]⟩] Tryz.f6
end
section
attribute [local irreducible] T.wp CV FWK
def exU:UseFile:=⟨3,2,10,5,[⟨21,23⟩],[⟨⟨12,14⟩,0,[0,1]⟩,⟨⟨19,19⟩,0,[0]⟩,⟨⟨17,26⟩,0,[2]⟩,⟨⟨18,18⟩,1,[0,1]⟩],[⟨20,0,[0,1,2]⟩,⟨25,0,[0,2]⟩]⟩
theorem c42{h:LH}(a b:Int):Pu Tryz.prog 24 #[a,b] h (.agg #[a,b]):=by
 refine w42 _ _ X0_ok ?_;unfold n42;exact t_ret ⟨rfl,rfl⟩
theorem c35{h:LH}{p q:Option Addr}{n c m d:Nat}{a b:List Int}(ha:Sl IntE 1 h.get p n a)(hb:Sl IntE 1 h.get q m b):Pu Tryz.prog 25 #[.slice p n c,.slice q m d] h (.bool (decide (a=b))):=by
 refine w35 _ _ _ _ _ _ X0_ok ?_;unfold n35;have hn:=ha.1;have hm:=hb.1;have hbn:=ha.2.1;have hbm:=hb.2.1;refine t_cond (fun e=>?_) (fun e=>?_)
 ·have:a≠b:=by rintro rfl;simp at e;omega
  exact t_ret ⟨by simp[this],rfl⟩
 have hnm:n=m:=by simp at e;omega
 refine t_loop (fun mm vs h'=>h=h'/\∃ i:Nat,vs=[.bool false,.int .i64 i]/\i<=n/\mm=n-i/\a.take i=b.take i) ⟨rfl,0,rfl,Nat.zero_le _,rfl,rfl⟩ ?_;rintro Y mm vs _ hY ⟨rfl,i,rfl,hi,rfl,hc⟩;refine yJ (fun e=>?_) (fun e=>?_)
 ·obtain⟨x,a1,hx,ha1,e1⟩:=ha.at (i:=i) (by omega);obtain⟨y,a2,hy,ha2,e2⟩:=hb.at (i:=i) (by omega);unfold IntE at e1 e2;refine yI (fun b1=>?_) (fun b1=>?_)
  ·refine gZ ?_;have:a≠b:=by rintro rfl;rw[hx]at hy;cases hy;simp at b1
   exact t_ret ⟨by simp[this],rfl⟩
  ·have b2:x=y:=by simpa using b1
   refine t_again (hY (n-(i+1)) _ _ (by omega) ⟨rfl,i+1,?_,by omega,rfl,?_⟩)
   ·rw[wrap_id (by omega) (by omega)];rfl
   ·rw[List.take_add_one,List.take_add_one,hc,hx,hy,b2]
 ·refine gZ ?_;rw[List.take_of_length_le (by omega),List.take_of_length_le (by omega)]at hc;exact t_ret ⟨by simp[hc],rfl⟩
theorem c25{h:LH}{p q:Option Addr}{n c m d:Nat}{a b:List Int}(ha:Sl IntE 1 h.get p n a)(hb:Sl IntE 1 h.get q m b):Pu Tryz.prog 26 #[.slice p n c,.slice q m d] h (.bool (decide (a=b))):=by
 refine w25 _ _ _ _ _ _ X0_ok ?_;unfold n25;have hn:=ha.1;have hm:=hb.1;have hbn:=ha.2.1;have hbm:=hb.2.1;refine t_cond (fun e=>?_) (fun e=>?_)
 ·have:a≠b:=by rintro rfl;simp at e;omega
  exact t_ret ⟨by simp[this],rfl⟩
 have hnm:n=m:=by simp at e;omega
 refine t_loop (fun mm vs h'=>h=h'/\∃ i:Nat,vs=[.bool false,.int .i64 i]/\i<=n/\mm=n-i/\a.take i=b.take i) ⟨rfl,0,rfl,Nat.zero_le _,rfl,rfl⟩ ?_;rintro Y mm vs _ hY ⟨rfl,i,rfl,hi,rfl,hc⟩;refine yJ (fun e=>?_) (fun e=>?_)
 ·obtain⟨x,a1,hx,ha1,e1⟩:=ha.at (i:=i) (by omega);obtain⟨y,a2,hy,ha2,e2⟩:=hb.at (i:=i) (by omega);unfold IntE at e1 e2;refine yI (fun b1=>?_) (fun b1=>?_)
  ·refine gZ ?_;have:a≠b:=by rintro rfl;rw[hx]at hy;cases hy;simp at b1
   exact t_ret ⟨by simp[this],rfl⟩
  ·have b2:x=y:=by simpa using b1
   refine t_again (hY (n-(i+1)) _ _ (by omega) ⟨rfl,i+1,?_,by omega,rfl,?_⟩)
   ·rw[wrap_id (by omega) (by omega)];rfl
   ·rw[List.take_add_one,List.take_add_one,hc,hx,hy,b2]
 ·refine gZ ?_;rw[List.take_of_length_le (by omega),List.take_of_length_le (by omega)]at hc;exact t_ret ⟨by simp[hc],rfl⟩
end
section
attribute [local irreducible] T.wp CV FWK
theorem t_buildG{X:XP}{Q:Leaf->LH->Prop}{h:LH}{k:Value->T}{t el:TypeId}{n s b:Nat}{parts:Array (Nat×Value)}{z:Value}{cells:Array Value}(hu:Tryz.prog.underlying t=some (.slice el))(hi:(Tryz.prog.info? el).map (fun i=>(i.size,i.bytes,i.zero))=some (s,b,some z))(hn:n*s<=2^24)(hpos:n*s≠0)
 (hf:Instr.fill (fun i=>some (i*s,s)) ((Array.range (n*s)).map (z.cells[·%z.cells.size]!)) parts.toList=some cells)
 (hk:∀ r h',h.le h'->h.get r=none->h'.get r=some (true,.cells cells el (0,0))->(k (.slice (some ⟨r,0,none⟩) n n)).wp X Tryz.prog Q h'):(T.sem false (Instr.buildSlice t n parts) k).wp X Tryz.prog Q h :=
 t_build hu hi hn hpos hf fun r hr=>hk r _ (LH.upd_le hr) hr (Cells.upd_self _ _ _)
theorem sl_ints{h:Cells}{r:Nat}{m:Bool}{el:TypeId}{l:List Int}{cs:Array Value}(hcs:cs=(l.map (Value.int .i64)).toArray)(hr:h r=some (m,.cells cs el (0,0)))(hb:l.length<4611686018427387904):Sl IntE 1 h (some ⟨r,0,none⟩) l.length l:=by
 refine⟨rfl,hb,fun i x hx=>⟨_,rfl,?_⟩⟩;unfold IntE;rw[add_plain,add_plain];subst hcs;simp[Cells.cell?,hr,hx]
theorem cell_row{h:Cells}{r i:Nat}{m:Bool}{cs:Array Value}{el:TypeId}{v:Value}(hr:h r=some (m,.cells cs el (0,0)))(hv:cs[i]?=some v):h.cell? ⟨r,i,none⟩=some v:=by
 simp[Cells.cell?,hr,hv]
theorem exRep{h:Cells}{r1 r2 r3 r4 r5 r6 r7 r8 r9:Nat}(e1:h r1=some (true,.cells #[.int .i64 21,.int .i64 23] 28 (0,0)))(e2:h r2=some (true,.cells #[.int .i64 0,.int .i64 1] 3 (0,0)))(e3:h r3=some (true,.cells #[.int .i64 0] 3 (0,0)))(e4:h r4=some (true,.cells #[.int .i64 2] 3 (0,0)))(e5:h r5=some (true,.cells #[.int .i64 0,.int .i64 1] 3 (0,0)))
 (e6:h r6=some (true,.cells #[.int .i64 12,.int .i64 14,.int .i64 0,.slice (some ⟨r2,0,none⟩) 2 2,.int .i64 19,.int .i64 19,.int .i64 0,.slice (some ⟨r3,0,none⟩) 1 1,.int .i64 17,.int .i64 26,.int .i64 0,.slice (some ⟨r4,0,none⟩) 1 1,.int .i64 18,.int .i64 18,.int .i64 1,.slice (some ⟨r5,0,none⟩) 2 2] 31 (0,0)))
 (e7:h r7=some (true,.cells #[.int .i64 0,.int .i64 1,.int .i64 2] 3 (0,0)))(e8:h r8=some (true,.cells #[.int .i64 0,.int .i64 2] 3 (0,0)))(e9:h r9=some (true,.cells #[.int .i64 20,.int .i64 0,.slice (some ⟨r7,0,none⟩) 3 3,.int .i64 25,.int .i64 0,.slice (some ⟨r8,0,none⟩) 2 2] 33 (0,0))) :
  FileR h ⟨some ⟨r1,0,none⟩,1,1,some ⟨r6,0,none⟩,4,4,some ⟨r9,0,none⟩,2,2⟩ exU:=by
 have cr:∀ {r i j:Nat} {m:Bool} {cs:Array Value} {el:TypeId} {v:Value},h r=some (m,.cells cs el (0,0))->cs[i+j]?=some v->h.cell? (Addr.add (Addr.add ⟨r,0,none⟩ i) j)=some v:=by
  intro r i j m cs el v hr hv;rw[add_plain,add_plain,Nat.zero_add];exact cell_row hr hv
 refine⟨⟨rfl,by show (1:Nat)<_;omega,?_⟩,⟨rfl,by show (4:Nat)<_;omega,?_⟩,⟨rfl,by show (2:Nat)<_;omega,?_⟩⟩
 ·intro i x hx
  match i,hx with
  | 0,hx=>cases hx;exact⟨_,rfl,cr e1 rfl,cr e1 rfl⟩
  | i+1,hx=>simp[exU]at hx
 ·intro i x hx
  match i,hx with
  | 0,hx=>cases hx;exact⟨_,rfl,cr e6 rfl,cr e6 rfl,cr e6 rfl,_,_,_,cr e6 rfl,sl_ints (l:=[0,1]) rfl e2 (by show (2:Nat)<_;omega)⟩
  | 1,hx=>cases hx;exact⟨_,rfl,cr e6 rfl,cr e6 rfl,cr e6 rfl,_,_,_,cr e6 rfl,sl_ints (l:=[0]) rfl e3 (by show (1:Nat)<_;omega)⟩
  | 2,hx=>cases hx;exact⟨_,rfl,cr e6 rfl,cr e6 rfl,cr e6 rfl,_,_,_,cr e6 rfl,sl_ints (l:=[2]) rfl e4 (by show (1:Nat)<_;omega)⟩
  | 3,hx=>cases hx;exact⟨_,rfl,cr e6 rfl,cr e6 rfl,cr e6 rfl,_,_,_,cr e6 rfl,sl_ints (l:=[0,1]) rfl e5 (by show (2:Nat)<_;omega)⟩
  | i+4,hx=>simp[exU]at hx
 ·intro i x hx
  match i,hx with
  | 0,hx=>cases hx;exact⟨_,rfl,cr e9 rfl,cr e9 rfl,_,_,_,cr e9 rfl,sl_ints (l:=[0,1,2]) rfl e7 (by show (3:Nat)<_;omega)⟩
  | 1,hx=>cases hx;exact⟨_,rfl,cr e9 rfl,cr e9 rfl,_,_,_,cr e9 rfl,sl_ints (l:=[0,2]) rfl e8 (by show (2:Nat)<_;omega)⟩
  | i+2,hx=>simp[exU]at hx
theorem c52{h:LH}:Gr Tryz.prog 16 #[] h fun r h'=>∃ f,r=fileV f exU/\FileR h'.get f exU:=by
 refine w52 X0_ok ?_;unfold n52;refine t_pu (c42 _ _) ?_;refine gZ ?_;refine t_buildG und22 inf30 (by decide) (by decide) (cells:=#[.int .i64 21,.int .i64 23]) (by kernel_rfl) fun r1 h1 le1 _ e1=>?_;refine gZ ?_;refine t_pu (c42 _ _) ?_;refine gZ ?_;refine t_buildG und50 inf3 (by decide) (by decide) (cells:=#[.int .i64 0,.int .i64 1]) (by kernel_rfl) fun r2 h2 le2 _ e2=>?_;refine gZ ?_;refine t_pu (c42 _ _) ?_;refine gZ ?_;refine t_buildG und50 inf3 (by decide) (by decide) (cells:=#[.int .i64 0]) (by kernel_rfl) fun r3 h3 le3 _ e3=>?_;refine gZ ?_;refine t_pu (c42 _ _) ?_;refine gZ ?_;refine t_buildG und50 inf3 (by decide) (by decide) (cells:=#[.int .i64 2]) (by kernel_rfl) fun r4 h4 le4 _ e4=>?_;refine gZ ?_;refine t_pu (c42 _ _) ?_;refine gZ ?_;refine t_buildG und50 inf3 (by decide) (by decide) (cells:=#[.int .i64 0,.int .i64 1]) (by kernel_rfl) fun r5 h5 le5 _ e5=>?_;refine gZ ?_;refine t_buildG und23 inf69 (by decide) (by decide) (cells:=#[.int .i64 12,.int .i64 14,.int .i64 0,.slice (some ⟨r2,0,none⟩) 2 2,.int .i64 19,.int .i64 19,.int .i64 0,.slice (some ⟨r3,0,none⟩) 1 1,.int .i64 17,.int .i64 26,.int .i64 0,.slice (some ⟨r4,0,none⟩) 1 1,.int .i64 18,.int .i64 18,.int .i64 1,.slice (some ⟨r5,0,none⟩) 2 2]) (by kernel_rfl) fun r6 h6 le6 _ e6=>?_;refine gZ ?_;refine t_buildG und50 inf3 (by decide) (by decide) (cells:=#[.int .i64 0,.int .i64 1,.int .i64 2]) (by kernel_rfl) fun r7 h7 le7 _ e7=>?_;refine gZ ?_;refine t_buildG und50 inf3 (by decide) (by decide) (cells:=#[.int .i64 0,.int .i64 2]) (by kernel_rfl) fun r8 h8 le8 _ e8=>?_;refine gZ ?_;refine t_buildG und24 inf64 (by decide) (by decide) (cells:=#[.int .i64 20,.int .i64 0,.slice (some ⟨r7,0,none⟩) 3 3,.int .i64 25,.int .i64 0,.slice (some ⟨r8,0,none⟩) 2 2]) (by kernel_rfl) fun r9 h9 le9 _ e9=>?_;refine gZ ?_;have l89:=le9;have l79:=LH.le_trans le8 l89;have l69:=LH.le_trans le7 l79;have l59:=LH.le_trans le6 l69;have l49:=LH.le_trans le5 l59;have l39:=LH.le_trans le4 l49;have l29:=LH.le_trans le3 l39;have l19:=LH.le_trans le2 l29;have e1:=l19.1 _ _ e1;have e2:=l29.1 _ _ e2;have e3:=l39.1 _ _ e3;have e4:=l49.1 _ _ e4;have e5:=l59.1 _ _ e5;have e6:=l69.1 _ _ e6;have e7:=l79.1 _ _ e7;have e8:=l89.1 _ _ e8;refine t_ret ⟨LH.le_trans le1 l19,⟨some ⟨r1,0,none⟩,1,1,some ⟨r6,0,none⟩,4,4,some ⟨r9,0,none⟩,2,2⟩,rfl,?_⟩;exact exRep e1 e2 e3 e4 e5 e6 e7 e8 e9
end
section
attribute [local irreducible] T.wp CV FWK
open Classical in
def seenF(l:List DApp)(i:Nat):ByteArray->Option Value:=fun s=>if ∃ j a,j<i/\l[j]?=some a/\a.name=s then some (.bool true) else none
theorem seen_none{y:DFile}(ok:DFileOk y){i:Nat}{a:DApp}(ha:y.apps[i]?=some a):seenF y.apps i a.name=none:=by
 unfold seenF;rw[if_neg];rintro⟨j,b,hj,hb,hn⟩;have:=ok.names j i b a hb ha hn;omega
theorem seen_next{l:List DApp}{i:Nat}{a:DApp}(ha:l[i]?=some a):updO (seenF l i) a.name (.bool true)=seenF l (i+1):=by
 funext s;unfold updO seenF;by_cases e:s=a.name
 ·rw[if_pos e,if_pos ⟨i,a,by omega,ha,e.symm⟩]
 ·rw[if_neg e];by_cases h1:∃ j b,j<i/\l[j]?=some b/\b.name=s
  ·obtain⟨j,b,h2,h3,h4⟩:=h1;rw[if_pos ⟨j,b,h2,h3,h4⟩,if_pos ⟨j,b,by omega,h3,h4⟩]
  ·rw[if_neg h1,if_neg];rintro⟨j,b,h2,h3,h4⟩;by_cases e2:j=i
   ·subst e2;rw[ha]at h3;cases h3;exact e h4.symm
   ·exact h1 ⟨j,b,by omega,h3,h4⟩
theorem c3313{h:LH}{f:DFileC}{y:DFile}(hr:DFileR h.get f y)(ok:DFileOk y):Gr Tryz.prog 56 #[dfV f y] h fun r _=>r=.int .i64 0:=by
 refine w3313 _ _ _ _ _ _ _ _ _ _ _ _ _ _ _ _ _ _ _ _ _ X0_ok ?_;unfold n3313;have hn:=hr.apps.1;refine t_newG fun r h1 le1 hr0 hb1 _=>?_;have hr1:=hr.le le1.1;have at1:DfAt h1.get ⟨r,0,none⟩ f y:=dfAt_of hb1 fun i v hv=>(by simpa[dfCells] using hv);obtain⟨d0,d1,d3,d4,d5,d6,d7,d8,d9,d10,d11,d12⟩:=at1.nest;have g2:=at1.g2;have g13:=at1.g13;refine gZ ?_;refine t_pu (c1075 hr1.cal ok.cal) ?_;refine gZ ?_;refine t_pu (c1102 _ _ _) ?_;have e1:isIn y.kinds 1 4=true:=by unfold isIn;simp[ok.kinds]
 rw[e1];refine gZ ?_;refine t_pu (c1076 _ _) ?_;refine gZ ?_;refine t_pu (c1078 ok.mend.1 ok.mend.2) ?_;refine gZ ?_;refine t_pu (c1078 ok.reach.1 ok.reach.2) ?_;refine gZ ?_;refine t_pu (c1078 ok.late.1 ok.late.2) ?_;refine gZ ?_;refine t_pu (c1078 ok.ask.1 ok.ask.2) ?_;refine gZ ?_;refine t_pu (c1078 ok.most.1 ok.most.2) ?_;refine gZ ?_;refine t_pu (c1102 _ _ _) ?_;have e2:isIn y.items 0 5=true:=by unfold isIn;simp[ok.items]
 rw[e2];refine gZ ?_;refine t_pu (c1076 _ _) ?_;refine gZ ?_;refine t_buildG und134 inf31 (by decide) (by decide) (cells:=Array.replicate 8 (Value.int .i64 0)) (by kernel_rfl) fun r2 h2 le2 hr2 hb2=>?_;have q0:=Cells.cell?_le le2.1 d0;have q1:=Cells.cell?_le le2.1 d1;refine gZ ?_;refine t_pu (c1074 (zeros_sl' (k:=8) (by decide) hb2)) ?_;rw[firstNZ_zeros];refine gZ ?_;refine t_cond (fun e=>absurd e (by decide)) (fun _=>?_);refine t_makeMapG fun m h3 le3 hm hm3=>?_;refine gZ ?_;refine t_newG fun z h4 le4 hz hb4 _=>?_;have ez:Addr.add ⟨z,0,none⟩ 0=⟨z,0,none⟩:=by rw[add_plain]
 rw[ez];refine t_storeG hb4 rfl (i:=0) rfl fun h5 kp5 hb5=>?_;have le35:h3.le h5:=kp5.le_of le4 hz;have le15:h1.le h5:=LH.le_trans le2 (LH.le_trans le3 le35);have at5:=at1.le le15.1;have g14:=at5.g14;have hM5:HoldsO Value.string h5.get m (seenF y.apps 0):=by
  refine⟨#[],0,le35.1 _ _ hm3,?_⟩;have:seenF y.apps 0=fun _=>none:=by
   funext s;unfold seenF;rw[if_neg];rintro⟨j,a,hj,_⟩;omega
  rw[this];exact MapO.nil
 have hz5:h5.get.cell? ⟨z,0,none⟩=some (.map (some m)):=cell_blk hb5 rfl;refine gZ ?_;refine t_call (c3324 (I:=fun i h'=>Kp m h5 h'/\HoldsO Value.string h'.get m (seenF y.apps i)) (hr1.apps.le DAppE.grow le15.1) (by have:=ok.apps4;omega) ⟨Kp.refl _ _,hM5⟩ (fun i h' hI=>hI.1.rd hM5.isMap) ?_) ?_
 ·rintro i x g h6 hx ar ⟨kp6,hM6⟩;have rd6:=kp6.rd hM5.isMap;refine CV.mono (cv_fw X0_ok (by rfl) (c3325 (rd6 _ _ hz5) hM6 (seen_none ok hx) (rd6 _ _ at5.g13) ok.items ar (ok.app x (List.mem_of_getElem? hx)))) ?_;rintro v h7 ⟨rfl,kp7,hM7⟩;rw[seen_next hx]at hM7;exact⟨rfl,kp6.trans kp7,hM7⟩
 rintro _ h6 ⟨rfl,kp6,_⟩;refine gZ ?_;exact t_ret ⟨LH.le_trans le1 (LH.le_trans le2 (kp6.le_of (LH.le_trans le3 le35) hm)),rfl⟩
end
end Go.Y
