/- UseKin: every claim of the row at every input, by the walk of the workers behind a WaitGroup and the law of the least distances. -/
import Derived.Test.YtfkfohpnpljihaaGreatDoorM6
set_option linter.all false
noncomputable section
open Go.IntKind (wrap)
section
namespace Go.TM
open Go
theorem can_sub {u:UseFile} {k i:Int} {L L':List Request} (h:∀ r ∈ L,r ∈ L') (hc:can u k i L' = true):can u k i L = true := by
 obtain ⟨ds,c1,c2⟩ := can_iff.1 hc;exact can_iff.2 ⟨ds,c1,fun r hr => c2 r (h r hr)⟩
theorem left_sub {u o:UseFile} {k i d e:Int} (hs:∀ x,safe o k i x = safe u k i x) (hc:∀ L,can o k i L = can u k i L) (h:∀ r ∈ against u k i d,r ∈ against o k i e):rk (left o k i e) <= rk (left u k i d) := by
 refine rk_le (left_vals _ _ _ _) (left_vals _ _ _ _) ?_ ?_
 ·rw [left_one_iff,left_one_iff];intro hh r hr;rw [<- hs]; exact hh r (h r hr)
 ·rw [left_two_iff,left_two_iff];rintro ⟨h1,h2⟩;refine ⟨fun h3 => h1 (left_one_iff.2 fun r hr => ?_),?_⟩
  ·rw [<- hs]; exact left_one_iff.1 h3 r (h r hr)
  ·cases hcc:can o k i (against o k i e) with
   | false => rfl
   | true =>
    rw [hc] at hcc;rw [can_sub h hcc] at h2; cases h2
theorem against_more {u:UseFile} {r:Request} {k i e:Int}:against { u with requests := u.requests ++ [r] } k i e = against u k i e ++ (if agB k i e r then [r] else []) := by
 show (u.requests ++ [r]).filter (agB k i e) = _;rw [List.filter_append];congr 1;cases hs:agB k i e r <;> simp [hs]
theorem can_req {u:UseFile} {r:Request} (k i:Int) (L:List Request):can { u with requests := u.requests ++ [r] } k i L = can u k i L := by
 rw [Bool.eq_iff_iff,can_iff,can_iff];exact Iff.rfl
theorem more_request {u:UseFile} {r:Request} {k i e:Int}:rk (left { u with requests := u.requests ++ [r] } k i e) <= rk (left u k i e) :=
 left_sub (fun _ => rfl) (fun L => can_req k i L) fun x hx => by rw [against_more]; exact List.mem_append_left _ hx
end Go.TM
end
namespace Go.Proofs.YtfkfohpnpljihaaGreatDoor
section
open Go Go.TM Go.Proofs
attribute [local irreducible] T.wp CV FWK
def ReqB (h0:Cells) (h:Cells) (a:Addr) (x:Request):Prop := ∃ q m c,(∀ (j:Nat) w,[Value.int .i64 x.day,.int .i64 x.land,.slice q m c][j]? = some w -> h.cell? (a.add j) = some w) /\ Sl IntE 1 h0 q m x.items
theorem reqTold {h0 h:Cells}:ToldE (ReqB h0) (ReqEnc h0) 3 h := by
 rintro a x ⟨q,m,c,h1,h2⟩;exact ⟨_,⟨q,m,c,rfl,h2⟩,rfl,h1,fun w hw => by simp at hw; rcases hw with rfl | rfl | rfl <;> rfl⟩
theorem reqB_of {h0 h:Cells} (hr:Rd h0 h) {p:Option Addr} {n:Nat} {l:List Request} (s:Sl RequestE 3 h0 p n l):Sl (ReqB h0) 3 h p n l := by
 refine ⟨s.1,s.2.1,fun i x hx => ?_⟩;obtain ⟨a,ha,h1,h2,q,m,c,h4,h5⟩ := s.2.2 i x hx;refine ⟨a,ha,q,m,c,fun j w hj => ?_,h5⟩
 match j,hj with
 | 0,hj => cases hj; exact hr _ _ h1
 | 1,hj => cases hj; exact hr _ _ h2
 | 2,hj => cases hj; exact hr _ _ h4
 | j + 3,hj => simp at hj
def ReqEnd (h:LH) (f:FileC) (u:UseFile) (y:Request) (vs:List Value) (h':LH):Prop := ∃ p n c,vs = [.int .i64 u.items,.int .i64 u.lands,.int .i64 u.from_,.int .i64 u.idle,.slice f.p4 f.n4 f.c4,.slice f.p5 f.n5 f.c5,.slice p n c] /\ h.le h' /\ FileR h'.get { f with p6 := p,n6 := n,c6 := c } { u with requests := u.requests ++ [y] }
theorem reqEnd_of {h h':LH} {f:FileC} {u:UseFile} {y:Request} (hu:FileR h.get f u) (h8:u.requests.length <= 8) {p:Option Addr} {n c:Nat} (hle:h.le h') (g:Growing (ReqEnc h.get) 34 3 h.get h'.get p n c (u.requests ++ [y])):ReqEnd h f u y [.int .i64 u.items,.int .i64 u.lands,.int .i64 u.from_,.int .i64 u.idle,.slice f.p4 f.n4 f.c4,.slice f.p5 f.n5 f.c5,.slice p n c] h' :=
 ⟨p,n,c,rfl,hle,(hu.le hle.1).excuses,(hu.le hle.1).papers,g.sl ReqEnc.len (by omega) (ReqEnc.e (Rd.of_le hle.1)) (by simp; omega)⟩
theorem leftAll_get {u:UseFile} {k d:Int} {j:Nat} {y:Int} (hj:j < u.items.toNat) (hy:(leftAll u k d)[j]? = some y):y = left u k j d := by
 unfold leftAll at hy;rw [List.getElem?_map,List.getElem?_range hj] at hy;simpa using hy.symm
theorem leftAll_len (u:UseFile) (k d:Int):(leftAll u k d).length = u.items.toNat := by unfold leftAll; rw [List.length_map,List.length_range]
end
section
open Go Go.TM Go.Proofs
attribute [local irreducible] T.wp CV FWK
theorem c3110 {h:LH} {f:FileC} {u:UseFile} (hu:FileR h.get f u) (hck:checkF u = 0) {y:Paper} {q:Option Addr} {m cq:Nat} (hy:Sl IntE 1 h.get q m y.items) :
  Gr Tryz.prog 12 #[fileV f u,paperV y q m cq] h fun r h' => ∃ f' b,r = .tuple #[fileV f' { u with papers := u.papers ++ [y] },.bool b] /\ FileR h'.get f' { u with papers := u.papers ++ [y] } /\ (b = true -> checkF { u with papers := u.papers ++ [y] } = 0) := by
 refine w3110 _ _ _ _ _ _ _ _ _ _ _ _ _ _ _ _ _ _ _ X0_ok ?_;unfold n3110;have h8 := (check_papers hck).1;have hn5 := hu.papers.1;refine t_blk (PaperEnd h f u y) ?_ ?_
 ·have ones:∀ v ∈ [Value.int .i64 y.days.first,.int .i64 y.days.last,.int .i64 y.land,.slice q m cq],isOne v = true := by
   intro w hw; simp at hw; rcases hw with rfl | rfl | rfl | rfl <;> rfl
  have enc:PaperEnc h.get y [Value.int .i64 y.days.first,.int .i64 y.days.last,.int .i64 y.land,.slice q m cq] := ⟨q,m,cq,rfl,hy⟩
  obtain ⟨hB,hBe⟩ : ∃ hB,hB = h := ⟨_,rfl⟩
  have huB:FileR hB.get f u := by rw [hBe]; exact hu
  rw [<- hBe] at enc ⊢;refine t_both ?_ ?_
  ·refine t_build0G (h₀ := hB) (Enc := PaperEnc hB.get) und23 inf69 (LH.le_refl _) fun r0 h1 hr0 le1 g1 => ?_;refine gZ ?_;refine t_both ?_ ?_
   ·refine t_copy (h₀ := hB) rfl rfl und23 und23 inf69 rfl (by omega) (by omega) g1 le1 (PaperB.of (Rd.of_le le1.1) huB.papers) paperTold fun p2 c2 h2 le2 _ g2 => ?_;refine gZ ?_;refine t_buildG und23 inf69 (by decide) (by decide) (cells := #[.int .i64 y.days.first,.int .i64 y.days.last,.int .i64 y.land,.slice q m cq]) (by kernel_rfl) fun r h3 le3 hr3 e3 => ?_;refine gZ ?_;refine copy_end1 (h := hB) und23 inf69 rfl (by omega) (by omega) (g2.le le3.1) (LH.le_trans le2 le3) enc rfl ones e3 (fun j w hj => by simpa using hj) fun p' c' h' le' g' => ?_;refine gZ ?_;exact t_again (paperEnd_of huB (by omega) le' g')
   ·refine t_buildG und23 inf69 (by decide) (by decide) (cells := #[.int .i64 y.days.first,.int .i64 y.days.last,.int .i64 y.land,.slice q m cq]) (by kernel_rfl) fun r h2 le2 hr2 e2 => ?_;refine gZ ?_;have le02 := LH.le_trans le1 le2;refine t_copy (h₀ := hB) rfl rfl und23 und23 inf69 rfl (by omega) (by omega) (g1.le le2.1) le02 (PaperB.of (Rd.of_le le02.1) huB.papers) paperTold fun p3 c3 h3 le3 kp g3 => ?_;refine gZ ?_;have hne:r ≠ r0 := by
     rintro rfl;obtain ⟨vs,⟨_,hh⟩,_⟩ := g1.row;rcases hh with ⟨hh,_⟩ | ⟨r',cs,hh,h5,_⟩
     ·cases hh
     ·cases hh; rw [hr2] at h5; cases h5
    have e3 := kp r _ (fun a ha e => by cases ha; exact hne e.symm) e2;refine copy_end1 (h := hB) und23 inf69 rfl (by omega) (by omega) g3 le3 enc rfl ones e3 (fun j w hj => by simpa using hj) fun p' c' h' le' g' => ?_;refine gZ ?_;exact t_again (paperEnd_of huB (by omega) le' g')
  ·refine t_buildG und23 inf69 (by decide) (by decide) (cells := #[.int .i64 y.days.first,.int .i64 y.days.last,.int .i64 y.land,.slice q m cq]) (by kernel_rfl) fun r h1 le1 hr1 e1 => ?_;refine gZ ?_;refine t_build0G (h₀ := hB) (Enc := PaperEnc hB.get) und23 inf69 le1 fun r0 h2 hr0 le2 g2 => ?_;refine gZ ?_;have le02 := LH.le_trans le1 le2;refine t_copy (h₀ := hB) rfl rfl und23 und23 inf69 rfl (by omega) (by omega) g2 le02 (PaperB.of (Rd.of_le le02.1) huB.papers) paperTold fun p3 c3 h3 le3 kp g3 => ?_;refine gZ ?_;have hne:r ≠ r0 := by rintro rfl; rw [e1] at hr0; cases hr0
   have e3 := kp r _ (fun a ha e => by cases ha; exact hne e.symm) (le2.1 _ _ e1);refine copy_end1 (h := hB) und23 inf69 rfl (by omega) (by omega) g3 le3 enc rfl ones e3 (fun j w hj => by simpa using hj) fun p' c' h' le' g' => ?_;refine gZ ?_;exact t_again (paperEnd_of huB (by omega) le' g')
 rintro vs h1 ⟨p1,n1,c1,rfl,le1,ho⟩;refine gZ ?_;refine t_cond (fun _ => ?_) (fun _ => ?_)
 ·refine t_pu (c27 ho) ?_;refine gZ ?_;exact t_ret ⟨le1,_,_,rfl,ho,fun e => by simpa using e⟩
 ·refine gZ ?_;refine t_both ?_ ?_
  ·refine gZ ?_;exact t_ret ⟨le1,_,_,rfl,ho,fun e => by cases e⟩
  ·refine gZ ?_;exact t_ret ⟨le1,_,_,rfl,ho,fun e => by cases e⟩
end
end Go.Proofs.YtfkfohpnpljihaaGreatDoor
section
namespace Go.TM
open Go Go.Conc
def kept (u:UseFile) (k d:Int) (m:Nat):List Int := ((List.range m).filter fun j:Nat => left u k (j:Int) d == 1).map fun j:Nat => (j:Int)
theorem kept_succ (u:UseFile) (k d:Int) (m:Nat):kept u k d (m + 1) = kept u k d m ++ (if left u k (m:Int) d == 1 then [(m:Int)] else []) := by
 unfold kept;rw [List.range_succ,List.filter_append,List.map_append];congr 1;simp only [List.filter_cons,List.filter_nil];split <;> rfl
theorem kept_len (u:UseFile) (k d:Int) (m:Nat):(kept u k d m).length <= m := by
 unfold kept;rw [List.length_map];exact Nat.le_trans (List.length_filter_le _ _) (by simp)
theorem kept_mem {u:UseFile} {k d:Int} {m:Nat} {v:Int}:v ∈ kept u k d m ↔ ∃ j:Nat,j < m /\ left u k (j:Int) d = 1 /\ v = (j:Int) := by
 unfold kept;simp only [List.mem_map,List.mem_filter,List.mem_range,beq_iff_eq];constructor
 ·rintro ⟨j,⟨h1,h2⟩,rfl⟩; exact ⟨j,h1,h2,rfl⟩
 ·rintro ⟨j,h1,h2,rfl⟩; exact ⟨j,⟨h1,h2⟩,rfl⟩
theorem kept_ok {t:GTab} {e:Int} (he:0 <= e /\ e < (t.eds.length:Int)) {u:UseFile} {k d:Int} {m:Nat} (hm:m <= (t.items e).length):ListOk t e (kept u k d m) := by
 refine ⟨fun v hv => ?_,?_⟩
 ·obtain ⟨j,h1,_,rfl⟩ := kept_mem.1 hv;exact ⟨he.1,he.2,by omega,by omega⟩
 ·unfold kept;rw [List.pairwise_map];exact (List.Pairwise.sublist List.filter_sublist List.pairwise_lt_range).imp fun h => by omega
theorem kept_sub {u x:UseFile} {k d:Int} {m:Nat} (h:∀ j:Nat,rk (left u k (j:Int) d) <= rk (left x k (j:Int) d)):∀ v ∈ kept u k d m,v ∈ kept x k d m := by
 intro v hv;obtain ⟨j,h1,h2,rfl⟩ := kept_mem.1 hv;refine kept_mem.2 ⟨j,h1,?_,rfl⟩;have := h j;unfold rk at this;rw [h2] at this;simp only [if_neg (show ¬ (1:Int) = 2 by decide),if_true] at this;split at this
 ·omega
 ·split at this
  ·assumption
  ·omega
theorem setL_sub {a b:List Int} (h:∀ v ∈ a,v ∈ b):Te.Sub (setL a) (setL b) := fun n hn => by
 unfold setL at hn ⊢;simp only [List.contains_iff_mem] at hn ⊢;exact h _ hn
theorem listT_sub {s t:Te.Items} (h:Te.Sub s t):∀ v ∈ listT s,v ∈ listT t := by
 intro v hv;unfold listT at hv ⊢;simp only [List.mem_map,List.mem_filter] at hv ⊢;obtain ⟨j,⟨h1,h2⟩,rfl⟩ := hv;exact ⟨j,⟨h1,h _ h2⟩,rfl⟩
theorem cover_up (t:GTab) (a b:Int) {x y:List Int} (h:∀ v ∈ x,v ∈ y):Te.Sub (coverAt t a b x).1 (coverAt t a b y).1 /\ Te.Sub (coverAt t a b x).2 (coverAt t a b y).2 :=
 Te.move_up _ _ _ _ _ _ (setL_sub h) (setL_sub h)
end Go.TM
namespace Go.Proofs.YtfkfohpnpljihaaGreatDoor
open Go Go.TM Go.Proofs
attribute [local irreducible] T.wp CV FWK
set_option maxRecDepth 10000 in
theorem c3109 {h:LH} (hp:Parts h.get) {f:FileC} {u:UseFile} (hu:FileR h.get f u) (hck:checkF u = 0) {k d:Int} (hk:0 <= k /\ k < u.lands) (hd:0 <= d /\ d <= 2000) {g:TabC} {t:GTab} (hr:TabR h.get g t) {e:Int} (he:0 <= e /\ e < (t.eds.length:Int)) :
  Gr Tryz.prog 36 #[fileV f u,.int .i64 k,.int .i64 d,tabV g,.int .i64 e,.bool false] h fun r h' => ∃ p n c,r = .tuple #[.slice p n c,.bool true] /\ Sl IntE 1 h'.get p n (kept u k d (min u.items.toNat (t.items e).length)) := by
 refine w3109 _ _ _ _ _ _ _ _ _ _ _ _ _ _ _ _ _ _ _ _ _ _ _ _ _ _ X0_ok ?_;unfold n3109;obtain ⟨⟨i1,i2⟩,_,_,_⟩ := num_ok (check_num hck);refine t_gr (c23 hp hu k d) ?_;intro r1 g1 le1 hr1;obtain ⟨p1,n1,k1,rfl,s1⟩ := hr1.form;rw [leftQ_ok hck hk hd,if_pos rfl] at s1;rw [leftQ_ok hck hk hd];have hl1:n1 = u.items.toNat := s1.1.trans (leftAll_len u k d);have hrg := hr.le le1.1;obtain ⟨l,a0,hle0,ha0,q0,m0,c0,e2,e3⟩ := hrg.eds.at (i := e.toNat) (by have := hrg.eds.1; omega);have hen:0 <= e /\ e < (g.n0:Int) := by have := hrg.eds.1; omega
 have hm0:m0 = (t.items e).length := by
  unfold GTab.items;rw [List.getD_eq_getElem?_getD,hle0]; exact e3.1
 rw [<- hl1,<- hm0];have hb1 := s1.2.1;have hb0 := e3.2.1;have hlen0 := e3.1;have hlen1 := s1.1;refine gZ ?_;refine t_loopB (fun mm vs h' => g1.le h' /\ ∃ (i:Nat) (p:Option Addr) (n c:Nat),vs = [.slice p n c,.int .i64 i] /\ i <= min n1 m0 /\ mm = min n1 m0 - i /\ Growing IntEnc 3 1 g1.get h'.get p n c (kept u k d i))
  (fun vs h' => g1.le h' /\ ∃ (p:Option Addr) (n c:Nat),vs = [.slice p n c,.int .i64 (min n1 m0:Nat)] /\ Growing IntEnc 3 1 g1.get h'.get p n c (kept u k d (min n1 m0)))
  ⟨LH.le_refl _,0,none,0,0,rfl,Nat.zero_le _,rfl,Growing.nil⟩ ?_ ?_
 ·rintro Y mm vs h2 hY ⟨le2,i,p,n,c,rfl,hi,rfl,gr⟩;have fin:¬ i < min n1 m0 -> g1.le h2 /\ ∃ (p':Option Addr) (n' c':Nat),[Value.slice p n c,.int .i64 (i:Int)] = [.slice p' n' c',.int .i64 (min n1 m0:Nat)] /\ Growing IntEnc 3 1 g1.get h2.get p' n' c' (kept u k d (min n1 m0)) := fun hn => by
   have:i = min n1 m0 := by omega
   exact ⟨le2,p,n,c,by rw [this],by rw [<- this]; exact gr⟩
  have e2' := Cells.cell?_le le2.1 e2;refine gZ ?_;refine t_blk (fun vs h' => vs = [] /\ h2 = h' /\ i < min n1 m0) ?_ ?_
  ·refine t_if (fun e4 => ?_) (fun e4 => ?_)
   ·refine gZ ?_;refine t_if (fun e5 => ?_) (fun e5 => ?_)
    ·exact t_again ⟨rfl,rfl,by omega⟩
    ·refine gR ?_;refine t_cond (fun _ => ?_) (fun e => by cases e);refine gB ?_;exact gH (fin (by omega))
   ·refine gR ?_;refine t_cond (fun _ => ?_) (fun e => by cases e);refine gB ?_;exact gH (fin (by omega))
  rintro vs _ ⟨rfl,rfl,him⟩;obtain ⟨x,a,hx,ha,e4⟩ := (s1.le IntE.grow le2.1).at (i := i) (by omega);unfold IntE at e4;have hxl:x = left u k (i:Int) d := leftAll_get (by omega) hx;subst hxl;have hin:0 <= (i:Int) /\ (i:Int) < (n1:Int) := by omega
  have hks := kept_succ u k d i;have hkl := kept_len u k d i;have hng := gr.count IntEnc.len (by omega);refine gZ ?_;refine t_cond (fun b1 => ?_) (fun b1 => ?_)
  ·rw [b1,if_pos rfl] at hks;refine t_pushI gr le2 (by omega) fun p' c' h3 le3 g3 => ?_;refine gZ ?_;refine t_again (hY (min n1 m0 - (i + 1)) _ _ (by omega) ⟨le3,i + 1,p',n + 1,c',?_,by omega,rfl,by rw [hks]; exact g3⟩);rw [wrap_id (by omega) (by omega)]; rfl
  ·rw [b1,if_neg (by simp),List.append_nil] at hks;refine t_cond (fun e => by cases e) (fun _ => ?_);refine t_again (hY (min n1 m0 - (i + 1)) _ _ (by omega) ⟨le2,i + 1,p,n,c,?_,by omega,rfl,by rw [hks]; exact gr⟩);rw [wrap_id (by omega) (by omega)]; rfl
 rintro vs h2 ⟨le2,p,n,c,rfl,gr⟩;have hkl := kept_len u k d (min n1 m0);refine gZ ?_;refine t_cond (fun _ => ?_) (fun e => by cases e);have hit:((n1:Int) == u.items) = true := by simp; omega
 rw [hit];refine gZ ?_;exact t_ret ⟨LH.le_trans le1 le2,p,n,c,rfl,gr.sl IntEnc.len (by omega) IntEnc.e (by omega)⟩
theorem c3112 {h:LH} {f:FileC} {u:UseFile} (hu:FileR h.get f u) (hck:checkF u = 0) {y:Request} {q:Option Addr} {m cq:Nat} (hy:Sl IntE 1 h.get q m y.items) :
  Gr Tryz.prog 13 #[fileV f u,reqV y q m cq] h fun r h' => ∃ f' b,r = .tuple #[fileV f' { u with requests := u.requests ++ [y] },.bool b] /\ FileR h'.get f' { u with requests := u.requests ++ [y] } /\ (b = true -> checkF { u with requests := u.requests ++ [y] } = 0) := by
 refine w3112 _ _ _ _ _ _ _ _ _ _ _ _ _ _ _ _ _ _ X0_ok ?_;unfold n3112;have h8 := (check_requests hck).1;have hn6 := hu.requests.1;refine t_blk (ReqEnd h f u y) ?_ ?_
 ·have ones:∀ v ∈ [Value.int .i64 y.day,.int .i64 y.land,.slice q m cq],isOne v = true := by
   intro w hw; simp at hw; rcases hw with rfl | rfl | rfl <;> rfl
  have enc:ReqEnc h.get y [Value.int .i64 y.day,.int .i64 y.land,.slice q m cq] := ⟨q,m,cq,rfl,hy⟩
  obtain ⟨hB,hBe⟩ : ∃ hB,hB = h := ⟨_,rfl⟩
  have huB:FileR hB.get f u := by rw [hBe]; exact hu
  rw [<- hBe] at enc ⊢;refine t_both ?_ ?_
  ·refine t_build0G (h₀ := hB) (Enc := ReqEnc hB.get) und24 inf64 (LH.le_refl _) fun r0 h1 hr0 le1 g1 => ?_;refine gZ ?_;refine t_both ?_ ?_
   ·refine t_copy (h₀ := hB) rfl rfl und24 und24 inf64 rfl (by omega) (by omega) g1 le1 (reqB_of (Rd.of_le le1.1) huB.requests) reqTold fun p2 c2 h2 le2 _ g2 => ?_;refine gZ ?_;refine t_buildG und24 inf64 (by decide) (by decide) (cells := #[.int .i64 y.day,.int .i64 y.land,.slice q m cq]) (by kernel_rfl) fun r h3 le3 hr3 e3 => ?_;refine gZ ?_;refine copy_end1 (h := hB) und24 inf64 rfl (by omega) (by omega) (g2.le le3.1) (LH.le_trans le2 le3) enc rfl ones e3 (fun j w hj => by simpa using hj) fun p' c' h' le' g' => ?_;refine gZ ?_;exact t_again (reqEnd_of huB (by omega) le' g')
   ·refine t_buildG und24 inf64 (by decide) (by decide) (cells := #[.int .i64 y.day,.int .i64 y.land,.slice q m cq]) (by kernel_rfl) fun r h2 le2 hr2 e2 => ?_;refine gZ ?_;have le02 := LH.le_trans le1 le2;refine t_copy (h₀ := hB) rfl rfl und24 und24 inf64 rfl (by omega) (by omega) (g1.le le2.1) le02 (reqB_of (Rd.of_le le02.1) huB.requests) reqTold fun p3 c3 h3 le3 kp g3 => ?_;refine gZ ?_;have hne:r ≠ r0 := by
     rintro rfl;obtain ⟨vs,⟨_,hh⟩,_⟩ := g1.row;rcases hh with ⟨hh,_⟩ | ⟨r',cs,hh,h5,_⟩
     ·cases hh
     ·cases hh; rw [hr2] at h5; cases h5
    have e3 := kp r _ (fun a ha e => by cases ha; exact hne e.symm) e2;refine copy_end1 (h := hB) und24 inf64 rfl (by omega) (by omega) g3 le3 enc rfl ones e3 (fun j w hj => by simpa using hj) fun p' c' h' le' g' => ?_;refine gZ ?_;exact t_again (reqEnd_of huB (by omega) le' g')
  ·refine t_buildG und24 inf64 (by decide) (by decide) (cells := #[.int .i64 y.day,.int .i64 y.land,.slice q m cq]) (by kernel_rfl) fun r h1 le1 hr1 e1 => ?_;refine gZ ?_;refine t_build0G (h₀ := hB) (Enc := ReqEnc hB.get) und24 inf64 le1 fun r0 h2 hr0 le2 g2 => ?_;refine gZ ?_;have le02 := LH.le_trans le1 le2;refine t_copy (h₀ := hB) rfl rfl und24 und24 inf64 rfl (by omega) (by omega) g2 le02 (reqB_of (Rd.of_le le02.1) huB.requests) reqTold fun p3 c3 h3 le3 kp g3 => ?_;refine gZ ?_;have hne:r ≠ r0 := by rintro rfl; rw [e1] at hr0; cases hr0
   have e3 := kp r _ (fun a ha e => by cases ha; exact hne e.symm) (le2.1 _ _ e1);refine copy_end1 (h := hB) und24 inf64 rfl (by omega) (by omega) g3 le3 enc rfl ones e3 (fun j w hj => by simpa using hj) fun p' c' h' le' g' => ?_;refine gZ ?_;exact t_again (reqEnd_of huB (by omega) le' g')
 rintro vs h1 ⟨p1,n1,c1,rfl,le1,ho⟩;refine gZ ?_;refine t_cond (fun _ => ?_) (fun _ => ?_)
 ·refine t_pu (c27 ho) ?_;refine gZ ?_;exact t_ret ⟨le1,_,_,rfl,ho,fun e => by simpa using e⟩
 ·refine gZ ?_;refine t_both ?_ ?_
  ·refine gZ ?_;exact t_ret ⟨le1,_,_,rfl,ho,fun e => by cases e⟩
  ·refine gZ ?_;exact t_ret ⟨le1,_,_,rfl,ho,fun e => by cases e⟩
end Go.Proofs.YtfkfohpnpljihaaGreatDoor
end
section
namespace Go.TM
open Go Go.Conc Go.TM.Ma
end Go.TM
namespace Go.Proofs.YtfkfohpnpljihaaGreatDoor
open Go Go.TM Go.Proofs Go.TM.Ma
attribute [local irreducible] T.wp CV FWK
theorem c3122 {h:LH} {f:TabC} {t:GTab} (hr:TabR h.get f t) (ok:TabOk t) {e:Int} (he:0 <= e /\ e < (t.eds.length:Int)) (bits:Int) :
  Gr Tryz.prog 10 #[tabV f,.int .i64 e,.int .u8 bits] h fun r h' => ∃ p n c l,r = .slice p n c /\ Sl IntE 1 h'.get p n l /\ ListOk t e l := by
 refine w3122 _ _ _ _ _ _ _ _ _ _ _ X0_ok ?_;unfold n3122;have hn0 := hr.eds.1;have h8 := ok.items8 e;refine t_loop (fun mm vs h' => h.le h' /\ ∃ (i:Nat) (p:Option Addr) (n c:Nat) (l:List Int),vs = [.slice p n c,.int .i64 i] /\ i <= (t.items e).length /\ mm = (t.items e).length - i /\ Growing IntEnc 3 1 h.get h'.get p n c l /\ l.length <= i /\ l.Pairwise (· < ·) /\ ∀ v ∈ l,0 <= v /\ v < (i:Int))
  ⟨LH.le_refl _,0,none,0,0,[],rfl,Nat.zero_le _,rfl,Growing.nil,Nat.le_refl _,List.Pairwise.nil,fun v hv => by simp at hv⟩ ?_
 rintro Y mm vs h1 hY ⟨le1,i,p,n,c,l,rfl,hi,rfl,gr,hll,hup,hin⟩;obtain ⟨it,a0,hle0,ha0,q0,m0,c0,e2,e3⟩ := (hr.le le1.1).eds.at (i := e.toNat) (by omega);have hm0:m0 = (t.items e).length := by
  unfold GTab.items;rw [List.getD_eq_getElem?_getD,hle0]; exact e3.1
 have hen:0 <= e /\ e < (f.n0:Int) := by omega
 have hng := gr.count IntEnc.len (by omega);refine gZ ?_;rw [hm0];refine t_if (fun e4 => ?_) (fun e4 => ?_)
 ·refine gZ ?_;refine t_cond (fun _ => ?_) (fun _ => ?_)
  ·refine t_pushI gr le1 (by omega) fun p' c' h2 le2 g2 => ?_;refine gZ ?_;refine t_again (hY ((t.items e).length - (i + 1)) _ _ (by omega) ⟨le2,i + 1,p',n + 1,c',l ++ [(i:Int)],?_,by omega,rfl,g2,by rw [List.length_append]; simp; omega,?_,fun v hv => ?_⟩)
   ·rw [wrap_id (by omega) (by omega)]; rfl
   ·rw [List.pairwise_append];refine ⟨hup,by simp,fun x hx y hy => ?_⟩;rw [List.mem_singleton] at hy;have := hin x hx;omega
   ·rw [List.mem_append,List.mem_singleton] at hv;rcases hv with hv | rfl
    ·have := hin v hv; omega
    ·omega
  ·refine t_again (hY ((t.items e).length - (i + 1)) _ _ (by omega) ⟨le1,i + 1,p,n,c,l,?_,by omega,rfl,gr,by omega,hup,fun v hv => by have := hin v hv; omega⟩);rw [wrap_id (by omega) (by omega)]; rfl
 ·refine gZ ?_;refine t_ret ⟨le1,p,n,c,l,rfl,gr.sl IntEnc.len (by omega) IntEnc.e (by omega),fun v hv => ?_,hup⟩;have := hin v hv;exact ⟨he.1,he.2,this.1,by omega⟩
end Go.Proofs.YtfkfohpnpljihaaGreatDoor
end
namespace Go.Proofs.YtfkfohpnpljihaaGreatDoor
section
open Go Go.TM Go.Proofs
set_option linter.unusedVariables false
set_option maxRecDepth 100000
variable {X:XP} {h:LH} {A:Value -> LH -> Prop}
def n3154 (t_0p:Option Addr) (t_0n t_0c:Nat) (t_1p:Option Addr) (t_1n t_1c:Nat) (t_2p:Option Addr) (t_2n t_2c:Nat) (one:Int) (ap:Option Addr) (an ac:Nat) (two:Int) (bp:Option Addr) (bn bc:Nat):T := .cI 70 #[.agg #[.slice t_0p t_0n t_0c,.slice t_1p t_1n t_1c,.slice t_2p t_2n t_2c],.int .i64 one,.slice ap an ac] fun n => bif n != 0 then .rt (.tuple #[.agg #[.int .i64 0,.int .i64 0],.int .i64 n]) else .cI 70 #[.agg #[.slice t_0p t_0n t_0c,.slice t_1p t_1n t_1c,.slice t_2p t_2n t_2c],.int .i64 two,.slice bp bn bc] fun n => bif n != 0 then .rt (.tuple #[.agg #[.int .i64 0,.int .i64 0],.int .i64 n]) else .cT 71 #[.agg #[.slice t_0p t_0n t_0c,.slice t_1p t_1n t_1c,.slice t_2p t_2n t_2c],.int .i64 one,.int .i64 (if two > one then two else one),.slice ap an ac] fun v vs => .unAgg v fun l => .popB l fun b vs_1 => .popB vs_1 fun b_1 vs_2 => .popB vs_2 fun b_2 vs_3 => .popB vs_3 fun b_3 vs_4 => .popB vs_4 fun b_4 vs_5 => .popB vs_5 fun b_5 vs_6 => .popB vs_6 fun b_6 vs_7 => .popB vs_7 fun b_7 vs_8 => .unNil vs_8 (.unCons vs fun v vs => .unAgg v fun l => .popB l fun b_8 vs_9 => .popB vs_9 fun b_9 vs_10 => .popB vs_10 fun b_10 vs_11 => .popB vs_11 fun b_11 vs_12 => .popB vs_12 fun b_12 vs_13 => .popB vs_13 fun b_13 vs_14 => .popB vs_14 fun b_14 vs_15 => .popB vs_15 fun b_15 vs_16 => .unNil vs_16 (.unNil vs (.cT 71 #[.agg #[.slice t_0p t_0n t_0c,.slice t_1p t_1n t_1c,.slice t_2p t_2n t_2c],.int .i64 two,.int .i64 (if two > one then two else one),.slice bp bn bc] fun v vs => .unAgg v fun l => .popB l fun b_16 vs_17 => .popB vs_17 fun b_17 vs_18 => .popB vs_18 fun b_18 vs_19 => .popB vs_19 fun b_19 vs_20 => .popB vs_20 fun b_20 vs_21 => .popB vs_21 fun b_21 vs_22 => .popB vs_22 fun b_22 vs_23 => .popB vs_23 fun b_23 vs_24 => .unNil vs_24 (.unCons vs fun v vs => .unAgg v fun l => .popB l fun b_24 vs_25 => .popB vs_25 fun b_25 vs_26 => .popB vs_26 fun b_26 vs_27 => .popB vs_27 fun b_27 vs_28 => .popB vs_28 fun b_28 vs_29 => .popB vs_29 fun b_29 vs_30 => .popB vs_30 fun b_30 vs_31 => .popB vs_31 fun b_31 vs_32 => .unNil vs_32 (.unNil vs (.cl 73 #[.agg #[b,.bool b_1,.bool b_2,.bool b_3,.bool b_4,.bool b_5,.bool b_6,.bool b_7]] fun v => .unS v fun a n c => .nd (.agg #[b_24,.bool b_25,.bool b_26,.bool b_27,.bool b_28,.bool b_29,.bool b_30,.bool b_31]) (.nd (.agg #[b_8,.bool b_9,.bool b_10,.bool b_11,.bool b_12,.bool b_13,.bool b_14,.bool b_15]) (.nd (.int .i64 (if two > one then two else one)) (.nd (.agg #[.slice t_0p t_0n t_0c,.slice t_1p t_1n t_1c,.slice t_2p t_2n t_2c]) (.nd (.agg #[b_16,.bool b_17,.bool b_18,.bool b_19,.bool b_20,.bool b_21,.bool b_22,.bool b_23]) (.nd (.int .i64 (if two > one then two else one)) (.nd (.agg #[.slice t_0p t_0n t_0c,.slice t_1p t_1n t_1c,.slice t_2p t_2n t_2c]) (.cl 73 #[.agg #[b_16,.bool b_17,.bool b_18,.bool b_19,.bool b_20,.bool b_21,.bool b_22,.bool b_23]] fun v => .unS v fun a_1 n_1 c_1 => .nd (.agg #[b_24,.bool b_25,.bool b_26,.bool b_27,.bool b_28,.bool b_29,.bool b_30,.bool b_31]) (.nd (.agg #[b_8,.bool b_9,.bool b_10,.bool b_11,.bool b_12,.bool b_13,.bool b_14,.bool b_15]) (.nd (.int .i64 (if two > one then two else one)) (.nd (.agg #[.slice t_0p t_0n t_0c,.slice t_1p t_1n t_1c,.slice t_2p t_2n t_2c]) (.nd (.int .i64 (if two > one then two else one)) (.nd (.agg #[.slice t_0p t_0n t_0c,.slice t_1p t_1n t_1c,.slice t_2p t_2n t_2c]) (.cI 72 #[.agg #[.slice t_0p t_0n t_0c,.slice t_1p t_1n t_1c,.slice t_2p t_2n t_2c],.int .i64 (if two > one then two else one),.slice a n c,.slice a_1 n_1 c_1] fun n => .nd (.agg #[b_24,.bool b_25,.bool b_26,.bool b_27,.bool b_28,.bool b_29,.bool b_30,.bool b_31]) (.nd (.agg #[b_8,.bool b_9,.bool b_10,.bool b_11,.bool b_12,.bool b_13,.bool b_14,.bool b_15]) (.nd (.int .i64 (if two > one then two else one)) (.nd (.agg #[.slice t_0p t_0n t_0c,.slice t_1p t_1n t_1c,.slice t_2p t_2n t_2c]) (.cl 73 #[.agg #[b_8,.bool b_9,.bool b_10,.bool b_11,.bool b_12,.bool b_13,.bool b_14,.bool b_15]] fun v => .unS v fun a n_2 c => .nd (.agg #[b_24,.bool b_25,.bool b_26,.bool b_27,.bool b_28,.bool b_29,.bool b_30,.bool b_31]) (.nd (.int .i64 (if two > one then two else one)) (.nd (.agg #[.slice t_0p t_0n t_0c,.slice t_1p t_1n t_1c,.slice t_2p t_2n t_2c]) (.cl 73 #[.agg #[b_24,.bool b_25,.bool b_26,.bool b_27,.bool b_28,.bool b_29,.bool b_30,.bool b_31]] fun v => .unS v fun a_2 n_3 c_2 => .nd (.int .i64 (if two > one then two else one)) (.nd (.agg #[.slice t_0p t_0n t_0c,.slice t_1p t_1n t_1c,.slice t_2p t_2n t_2c]) (.cI 72 #[.agg #[.slice t_0p t_0n t_0c,.slice t_1p t_1n t_1c,.slice t_2p t_2n t_2c],.int .i64 (if two > one then two else one),.slice a n_2 c,.slice a_2 n_3 c_2] fun n_4 => .rt (.tuple #[.agg #[n,.int .i64 n_4],.int .i64 0])))))))))))))))))))))))))))))
theorem w3154 (t_0p:Option Addr) (t_0n t_0c:Nat) (t_1p:Option Addr) (t_1n t_1c:Nat) (t_2p:Option Addr) (t_2n t_2c:Nat) (one:Int) (ap:Option Addr) (an ac:Nat) (two:Int) (bp:Option Addr) (bn bc:Nat):FX X 37 #[.agg #[.slice t_0p t_0n t_0c,.slice t_1p t_1n t_1c,.slice t_2p t_2n t_2c],.int .i64 one,.slice ap an ac,.int .i64 two,.slice bp bn bc] h A (n3154 t_0p t_0n t_0c t_1p t_1n t_1c t_2p t_2n t_2c one ap an ac two bp bn bc) := fk [5,10,14,16,17,18,19] [] [] Tryz.f37
end
section
open Go Go.TM Go.Proofs
set_option linter.unusedVariables false
set_option maxRecDepth 100000
variable {X:XP} {h:LH} {A:Value -> LH -> Prop}
def n3123 (u_0 u_1 u_2 u_3:Int) (u_4p:Option Addr) (u_4n u_4c:Nat) (u_5p:Option Addr) (u_5n u_5c:Nat) (u_6p:Option Addr) (u_6n u_6c:Nat) (land day:Int) (t_0p:Option Addr) (t_0n t_0c:Nat) (t_1p:Option Addr) (t_1n t_1c:Nat) (t_2p:Option Addr) (t_2n t_2c:Nat) (edition two:Int) (otherp:Option Addr) (othern otherc:Nat):T := .cT 36 #[.agg #[u_0,.int .i64 u_1,.int .i64 u_2,.int .i64 u_3,.slice u_4p u_4n u_4c,.slice u_5p u_5n u_5c,.slice u_6p u_6n u_6c],.int .i64 land,.int .i64 day,.agg #[.slice t_0p t_0n t_0c,.slice t_1p t_1n t_1c,.slice t_2p t_2n t_2c],.int .i64 edition,.bool false] fun v vs => .unS v fun a n c => .unCons vs fun v vs => .unB v fun b => .unNil vs (.cT 36 #[.agg #[u_0,.int .i64 u_1,.int .i64 u_2,.int .i64 u_3,.slice u_4p u_4n u_4c,.slice u_5p u_5n u_5c,.slice u_6p u_6n u_6c],.int .i64 land,.int .i64 day,.agg #[.slice t_0p t_0n t_0c,.slice t_1p t_1n t_1c,.slice t_2p t_2n t_2c],.int .i64 edition,.bool true] fun v vs => .unS v fun a_1 n_1 c_1 => .unCons vs fun v vs => .unB v fun b_1 => .unNil vs (.cT 37 #[.agg #[.slice t_0p t_0n t_0c,.slice t_1p t_1n t_1c,.slice t_2p t_2n t_2c],.int .i64 edition,.slice a n c,.int .i64 two,.slice otherp othern otherc] fun v vs => .unAgg v fun l => .pi l fun n vs_1 => .pi vs_1 fun n_2 vs_2 => .unNil vs_2 (.unCons vs fun v vs => .ui v fun n_3 => .unNil vs (.cT 37 #[.agg #[.slice t_0p t_0n t_0c,.slice t_1p t_1n t_1c,.slice t_2p t_2n t_2c],.int .i64 edition,.slice a_1 n_1 c_1,.int .i64 two,.slice otherp othern otherc] fun v vs => .unAgg v fun l => .pi l fun n_4 vs_3 => .pi vs_3 fun n_5 vs_4 => .unNil vs_4 (.unCons vs fun v vs => .ui v fun n_6 => .unNil vs (bif b then bif b_1 then bif n_3 == 0 then .nb (n_6 == 0) (.nb (n_6 == 0) (.nd n_6 (.nb (n_3 == 0) (.nb (n_3 == 0) (.nd n_3 (.nf b_1 true (.nd b_1 (.nd b_1 (.nf b true (.nd b (.nd (.agg #[n_4,.int .i64 n_5]) (.nb (n_6 == 0) (.nb (n_6 == 0) (.nd n_6 (.nb (n_3 == 0) (.nb (n_3 == 0) (.nd n_3 (.nf b_1 true (.nd b_1 (.nd b_1 (.nf b true (.nd b (.rt (.tuple #[.agg #[n,.int .i64 n_2],.agg #[n_4,.int .i64 n_5],.bool (n_6 == 0)])))))))))))))))))))))))) else .both (.nb (n_3 == 0) (.nb (n_3 == 0) (.nd n_3 (.nf b_1 true (.nd b_1 (.nd b_1 (.nf b true (.nd b (.nd (.agg #[n_4,.int .i64 n_5]) (.nd (.agg #[n,.int .i64 n_2]) (.nd false (.nb (n_3 == 0) (.nb (n_3 == 0) (.nd n_3 (.nf b_1 true (.nd b_1 (.nd b_1 (.nf b true (.nd b (.nd (.agg #[n_4,.int .i64 n_5]) (.nd false (.nb (n_3 == 0) (.nb (n_3 == 0) (.nd n_3 (.nf b_1 true (.nd b_1 (.nd b_1 (.nf b true (.nd b (.rt (.tuple #[.agg #[n,.int .i64 n_2],.agg #[n_4,.int .i64 n_5],.bool false]))))))))))))))))))))))))))))))) (.nU (.nb (n_3 == 0) (.nb (n_3 == 0) (.nd n_3 (.nf b_1 true (.nd b_1 (.nd b_1 (.nf b true (.nd b (.nd (.agg #[n_4,.int .i64 n_5]) (.both (.nb (n_3 == 0) (.nb (n_3 == 0) (.nd n_3 (.nf b_1 true (.nd b_1 (.nd b_1 (.nf b true (.nd b (.nd (.agg #[n_4,.int .i64 n_5]) (.nd false (.nb (n_3 == 0) (.nb (n_3 == 0) (.nd n_3 (.nf b_1 true (.nd b_1 (.nd b_1 (.nf b true (.nd b (.rt (.tuple #[.agg #[n,.int .i64 n_2],.agg #[n_4,.int .i64 n_5],.bool false])))))))))))))))))))) (.nU (.nb (n_3 == 0) (.nb (n_3 == 0) (.nd n_3 (.nf b_1 true (.nd b_1 (.nd b_1 (.nf b true (.nd b (.nb (n_3 == 0) (.nb (n_3 == 0) (.nd n_3 (.nf b_1 true (.nd b_1 (.nd b_1 (.nf b true (.nd b (.rt (.tuple #[.agg #[n,.int .i64 n_2],.agg #[n_4,.int .i64 n_5],.bool false])))))))))))))))))))))))))))))) else .nd b_1 (.nd b_1 (.nf b true (.nd b (.nd (.agg #[n_4,.int .i64 n_5]) (.nd (.agg #[n,.int .i64 n_2]) (.both (.nd false (.nd b_1 (.nd b_1 (.nf b true (.nd b (.nd (.agg #[n_4,.int .i64 n_5]) (.nd (.agg #[n,.int .i64 n_2]) (.nd false (.nd false (.nd b_1 (.nd b_1 (.nf b true (.nd b (.nd (.agg #[n_4,.int .i64 n_5]) (.nd false (.nd false (.nd b_1 (.nd b_1 (.nf b true (.nd b (.rt (.tuple #[.agg #[n,.int .i64 n_2],.agg #[n_4,.int .i64 n_5],.bool false])))))))))))))))))))))) (.nU (.nd false (.nd b_1 (.nd b_1 (.nf b true (.nd b (.nd (.agg #[n_4,.int .i64 n_5]) (.both (.nd false (.nd b_1 (.nd b_1 (.nf b true (.nd b (.nd (.agg #[n_4,.int .i64 n_5]) (.nd false (.nd false (.nd b_1 (.nd b_1 (.nf b true (.nd b (.rt (.tuple #[.agg #[n,.int .i64 n_2],.agg #[n_4,.int .i64 n_5],.bool false])))))))))))))) (.nU (.nd false (.nd b_1 (.nd b_1 (.nf b true (.nd b (.nd false (.nd b_1 (.nd b_1 (.nf b true (.nd b (.rt (.tuple #[.agg #[n,.int .i64 n_2],.agg #[n_4,.int .i64 n_5],.bool false]))))))))))))))))))))))))))) else .nd false (.nU (.nf b false (.nd b (.nd (.agg #[n_4,.int .i64 n_5]) (.nd (.agg #[n,.int .i64 n_2]) (.both (.nd false (.nd false (.nU (.nf b false (.nd b (.nd (.agg #[n_4,.int .i64 n_5]) (.nd (.agg #[n,.int .i64 n_2]) (.nd false (.nd false (.nd false (.nU (.nf b false (.nd b (.nd (.agg #[n_4,.int .i64 n_5]) (.nd false (.nd false (.nd false (.nU (.nf b false (.nd b (.rt (.tuple #[.agg #[n,.int .i64 n_2],.agg #[n_4,.int .i64 n_5],.bool false])))))))))))))))))))))) (.nU (.nd false (.nd false (.nU (.nf b false (.nd b (.nd (.agg #[n_4,.int .i64 n_5]) (.both (.nd false (.nd false (.nU (.nf b false (.nd b (.nd (.agg #[n_4,.int .i64 n_5]) (.nd false (.nd false (.nd false (.nU (.nf b false (.nd b (.rt (.tuple #[.agg #[n,.int .i64 n_2],.agg #[n_4,.int .i64 n_5],.bool false])))))))))))))) (.nU (.nd false (.nd false (.nU (.nf b false (.nd b (.nd false (.nd false (.nU (.nf b false (.nd b (.rt (.tuple #[.agg #[n,.int .i64 n_2],.agg #[n_4,.int .i64 n_5],.bool false])))))))))))))))))))))))))))))))))
theorem w3123 (u_0 u_1 u_2 u_3:Int) (u_4p:Option Addr) (u_4n u_4c:Nat) (u_5p:Option Addr) (u_5n u_5c:Nat) (u_6p:Option Addr) (u_6n u_6c:Nat) (land day:Int) (t_0p:Option Addr) (t_0n t_0c:Nat) (t_1p:Option Addr) (t_1n t_1c:Nat) (t_2p:Option Addr) (t_2n t_2c:Nat) (edition two:Int) (otherp:Option Addr) (othern otherc:Nat):FX X 11 #[.agg #[u_0,.int .i64 u_1,.int .i64 u_2,.int .i64 u_3,.slice u_4p u_4n u_4c,.slice u_5p u_5n u_5c,.slice u_6p u_6n u_6c],.int .i64 land,.int .i64 day,.agg #[.slice t_0p t_0n t_0c,.slice t_1p t_1n t_1c,.slice t_2p t_2n t_2c],.int .i64 edition,.int .i64 two,.slice otherp othern otherc] h A (n3123 u_0 u_1 u_2 u_3 u_4p u_4n u_4c u_5p u_5n u_5c u_6p u_6n u_6c land day t_0p t_0n t_0c t_1p t_1n t_1c t_2p t_2n t_2c
  edition two otherp othern otherc) := fk [7,10,14,15,21,23] [] [] Tryz.f11
end
section
open Go Go.TM Go.Proofs
set_option linter.unusedVariables false
set_option maxRecDepth 100000
variable {X:XP} {h:LH} {A:Value -> LH -> Prop}
def n3102 (u_0 u_1 u_2 u_3:Int) (u_4p:Option Addr) (u_4n u_4c:Nat) (u_5p:Option Addr) (u_5n u_5c:Nat) (u_6p:Option Addr) (u_6n u_6c:Nat) (land day p_0 p_1 p_2:Int) (p_3p:Option Addr) (p_3n p_3c:Nat) (r_0 r_1:Int) (r_2p:Option Addr) (r_2n r_2c:Nat) (t_0p:Option Addr) (t_0n t_0c:Nat) (t_1p:Option Addr) (t_1n t_1c:Nat) (t_2p:Option Addr) (t_2n t_2c:Nat) (one two bits:Int):T := .blk (.cB 6 #[.agg #[u_0,.int .i64 u_1,.int .i64 u_2,.int .i64 u_3,.slice u_4p u_4n u_4c,.slice u_5p u_5n u_5c,.slice u_6p u_6n u_6c]] fun b => bif !b then .cB 8 #[] fun b => .rn [b] else .cB 7 #[.agg #[.slice t_0p t_0n t_0c,.slice t_1p t_1n t_1c,.slice t_2p t_2n t_2c]] fun b => bif !b then .cB 8 #[] fun b => .rn [b] else .ag [false]) (fun vs => .popB vs fun b vs => .unNil vs (.need (u_1 ≠ 0) (.need ((↑t_0n:Int) ≠ 0) (.need ((↑t_0n:Int) ≠ 0) (.cI 9 #[.int .u16 day] fun n => .need ((↑t_0n:Int) ≠ 0) (.nd (.int .i64 (Int.tmod (wrap .i64 two) (↑t_0n:Int))) (.nd (.int .i64 (↑t_0n:Int)) (.nS t_0p t_0n t_0c (.np 14 0 (.nd (.int .i64 (wrap .i64 two)) (.nd (.int .u8 two) (.need ((↑t_0n:Int) ≠ 0) (.nd (.int .i64 (Int.tmod (wrap .i64 one) (↑t_0n:Int))) (.nd (.int .i64 (↑t_0n:Int)) (.nS t_0p t_0n t_0c (.np 14 0 (.nd (.int .i64 (wrap .i64 one)) (.nd (.int .u8 one) (.need (u_1 ≠ 0) (.nd (.int .i64 (Int.tmod (wrap .i64 land) u_1)) (.nd u_1 (.np 9 1 (.nd (.int .i64 (wrap .i64 land)) (.nd (.int .u8 land) (.need ((↑t_0n:Int) ≠ 0) (.nd (.int .i64 (Int.tmod (wrap .i64 two) (↑t_0n:Int))) (.nd (.int .i64 (↑t_0n:Int)) (.nS t_0p t_0n t_0c (.np 14 0 (.nd (.int .i64 (wrap .i64 two)) (.nd (.int .u8 two) (.need ((↑t_0n:Int) ≠ 0) (.nd (.int .i64 (Int.tmod (wrap .i64 one) (↑t_0n:Int))) (.nd (.int .i64 (↑t_0n:Int)) (.nS t_0p t_0n t_0c (.np 14 0 (.nd (.int .i64 (wrap .i64 one)) (.nd (.int .u8 one) (.need ((↑t_0n:Int) ≠ 0) (.nd (.int .i64 (Int.tmod (wrap .i64 two) (↑t_0n:Int))) (.nd (.int .i64 (↑t_0n:Int)) (.nS t_0p t_0n t_0c (.np 14 0 (.nd (.int .i64 (wrap .i64 two)) (.nd (.int .u8 two) (.need ((↑t_0n:Int) ≠ 0) (.nd (.int .i64 (Int.tmod (wrap .i64 one) (↑t_0n:Int))) (.nd (.int .i64 (↑t_0n:Int)) (.nS t_0p t_0n t_0c (.np 14 0 (.nd (.int .i64 (wrap .i64 one)) (.nd (.int .u8 one) (.need ((↑t_0n:Int) ≠ 0) (.nd (.int .i64 (Int.tmod (wrap .i64 two) (↑t_0n:Int))) (.nd (.int .i64 (↑t_0n:Int)) (.nS t_0p t_0n t_0c (.np 14 0 (.nd (.int .i64 (wrap .i64 two)) (.nd (.int .u8 two) (.cl 10 #[.agg #[.slice t_0p t_0n t_0c,.slice t_1p t_1n t_1c,.slice t_2p t_2n t_2c],.int .i64 (Int.tmod (wrap .i64 two) (↑t_0n:Int)),.int .u8 bits] fun v => .unS v fun a n_1 c => .cT 11 #[.agg #[u_0,.int .i64 u_1,.int .i64 u_2,.int .i64 u_3,.slice u_4p u_4n u_4c,.slice u_5p u_5n u_5c,.slice u_6p u_6n u_6c],.int .i64 (Int.tmod (wrap .i64 land) u_1),.int .i64 n,.agg #[.slice t_0p t_0n t_0c,.slice t_1p t_1n t_1c,.slice t_2p t_2n t_2c],.int .i64 (Int.tmod (wrap .i64 one) (↑t_0n:Int)),.int .i64 (Int.tmod (wrap .i64 two) (↑t_0n:Int)),.slice a n_1 c] fun v vs => .unAgg v fun l => .pi l fun n_2 vs_1 => .pi vs_1 fun n_3 vs_2 => .unNil vs_2 (.unCons vs fun v vs => .unAgg v fun l => .pi l fun n_4 vs_3 => .pi vs_3 fun n_5 vs_4 => .unNil vs_4 (.unCons vs fun v vs => .unB v fun b_1 => .unNil vs (.blk (bif !b_1 then .rn [false] else bif decide (n_4 < n_2) then .rn [false] else bif decide (n_5 < n_3) then .rn [false] else .ag [b]) (fun vs => .popB vs fun b vs => .unNil vs (.blk (.cT 12 #[.agg #[u_0,.int .i64 u_1,.int .i64 u_2,.int .i64 u_3,.slice u_4p u_4n u_4c,.slice u_5p u_5n u_5c,.slice u_6p u_6n u_6c],.agg #[p_0,.int .i64 p_1,.int .i64 p_2,.slice p_3p p_3n p_3c]] fun v vs => .unAgg v fun l => .pi l fun n_6 vs_5 => .pi vs_5 fun n_7 vs_6 => .pi vs_6 fun n_8 vs_7 => .pi vs_7 fun n_9 vs_8 => .popS vs_8 fun a_1 n_10 c_1 vs_9 => .popS vs_9 fun a_2 n_11 c_2 vs_10 => .popS vs_10 fun a_3 n_12 c_3 vs_11 => .unNil vs_11 (.unCons vs fun v vs => .unB v fun b_2 => .unNil vs (bif b_2 then .cT 11 #[.agg #[n_6,.int .i64 n_7,.int .i64 n_8,.int .i64 n_9,.slice a_1 n_10 c_1,.slice a_2 n_11 c_2,.slice a_3 n_12 c_3],.int .i64 (Int.tmod (wrap .i64 land) u_1),.int .i64 n,.agg #[.slice t_0p t_0n t_0c,.slice t_1p t_1n t_1c,.slice t_2p t_2n t_2c],.int .i64 (Int.tmod (wrap .i64 one) (↑t_0n:Int)),.int .i64 (Int.tmod (wrap .i64 two) (↑t_0n:Int)),.slice a n_1 c] fun v vs => .unAgg v fun l => .pi l fun n vs_12 => .pi vs_12 fun n_13 vs_13 => .unNil vs_13 (.unCons vs fun v vs => .unAgg v fun l => .pi l fun n_14 vs_14 => .pi vs_14 fun n_15 vs_15 => .unNil vs_15 (.unCons vs fun v vs => .unB v fun b_3 => .unNil vs (bif !b_3 then .rn [false] else bif decide (n < n_2) then .rn [false] else bif decide (n_13 < n_3) then .rn [false] else bif decide (n_14 < n_4) then .rn [false] else bif decide (n_15 < n_5) then .rn [false] else .ag [b]))) else .ag [b]))) (fun vs => .popB vs fun b vs => .unNil vs (.cT 13 #[.agg #[u_0,.int .i64 u_1,.int .i64 u_2,.int .i64 u_3,.slice u_4p u_4n u_4c,.slice u_5p u_5n u_5c,.slice u_6p u_6n u_6c],.agg #[r_0,.int .i64 r_1,.slice r_2p r_2n r_2c]] fun v vs => .unAgg v fun l => .pi l fun n_6 vs_5 => .pi vs_5 fun n_7 vs_6 => .pi vs_6 fun n_8 vs_7 => .pi vs_7 fun n_9 vs_8 => .popS vs_8 fun a_1 n_10 c_1 vs_9 => .popS vs_9 fun a_2 n_11 c_2 vs_10 => .popS vs_10 fun a_3 n_12 c_3 vs_11 => .unNil vs_11 (.unCons vs fun v vs => .unB v fun b => .unNil vs (bif b then .cT 11 #[.agg #[n_6,.int .i64 n_7,.int .i64 n_8,.int .i64 n_9,.slice a_1 n_10 c_1,.slice a_2 n_11 c_2,.slice a_3 n_12 c_3],.int .i64 (Int.tmod (wrap .i64 land) u_1),.int .i64 n,.agg #[.slice t_0p t_0n t_0c,.slice t_1p t_1n t_1c,.slice t_2p t_2n t_2c],.int .i64 (Int.tmod (wrap .i64 one) (↑t_0n:Int)),.int .i64 (Int.tmod (wrap .i64 two) (↑t_0n:Int)),.slice a n_1 c] fun v vs => .unAgg v fun l => .pi l fun n vs_12 => .pi vs_12 fun n_13 vs_13 => .unNil vs_13 (.unCons vs fun v vs => .unAgg v fun l => .pi l fun n_14 vs_14 => .pi vs_14 fun n_15 vs_15 => .unNil vs_15 (.unCons vs fun v vs => .unB v fun b => .unNil vs (bif !b then .rt (.bool false) else bif decide (n > n_2) then .rt (.bool false) else bif decide (n_13 > n_3) then .rt (.bool false) else bif decide (n_14 > n_4) then .rt (.bool false) else bif decide (n_15 > n_5) then .rt (.bool false) else .cB 8 #[] fun b => .rt (.bool b)))) else .cB 8 #[] fun b => .rt (.bool b))))) (fun vs => .popB vs fun b vs => .unNil vs (.rt (.bool b))) fun x x_1 => .fail)) (fun vs => .popB vs fun b vs => .unNil vs (.rt (.bool b))) fun x x_1 => .fail))))))))))))))))))))))))))))))))))))))))))))))))))))))))))))))) (fun vs => .popB vs fun b vs => .unNil vs (.rt (.bool b))) fun x x_1 => .fail
theorem w3102 (u_0 u_1 u_2 u_3:Int) (u_4p:Option Addr) (u_4n u_4c:Nat) (u_5p:Option Addr) (u_5n u_5c:Nat) (u_6p:Option Addr) (u_6n u_6c:Nat) (land day p_0 p_1 p_2:Int) (p_3p:Option Addr) (p_3n p_3c:Nat) (r_0 r_1:Int) (r_2p:Option Addr) (r_2n r_2c:Nat) (t_0p:Option Addr) (t_0n t_0c:Nat) (t_1p:Option Addr) (t_1n t_1c:Nat) (t_2p:Option Addr) (t_2n t_2c:Nat) (one two bits:Int):FX X 3 #[.agg #[u_0,.int .i64 u_1,.int .i64 u_2,.int .i64 u_3,.slice u_4p u_4n u_4c,.slice u_5p u_5n u_5c,.slice u_6p u_6n u_6c],.int .u8 land,.int .u16 day,.agg #[p_0,.int .i64 p_1,.int .i64 p_2,.slice p_3p p_3n p_3c],.agg #[r_0,.int .i64 r_1,.slice r_2p r_2n r_2c],.agg #[.slice t_0p t_0n t_0c,.slice t_1p t_1n t_1c,.slice t_2p t_2n t_2c],.int .u8 one,.int .u8 two,.int .u8 bits] h A (n3102 u_0 u_1 u_2 u_3 u_4p u_4n u_4c u_5p u_5n u_5c u_6p u_6n u_6c land day p_0 p_1 p_2 p_3p p_3n p_3c r_0 r_1 r_2p r_2n
  r_2c t_0p t_0n t_0c t_1p t_1n t_1c t_2p t_2n t_2c one two bits) := fk [9,12,13,14,24,25,27,29,30,32,34,35] [] [⟨13,[(18,.bool)],[9,12,13,14,24,25],[],[],[]⟩,⟨8,[(18,.bool)],[9,12,13,14,24,25],[],[],[]⟩,⟨3,[(18,.bool)],[9,12,13,14],[],[],[]⟩] Tryz.f3
end
end Go.Proofs.YtfkfohpnpljihaaGreatDoor
section
namespace Go.TM
open Go Go.Conc
def keptM (u:UseFile) (k d:Int) (m:Nat):List Int := ((List.range m).filter fun j:Nat => left u k (j:Int) d == 1 || left u k (j:Int) d == 0).map fun j:Nat => (j:Int)
theorem keptM_succ (u:UseFile) (k d:Int) (m:Nat):keptM u k d (m + 1) = keptM u k d m ++ (if (left u k (m:Int) d == 1 || left u k (m:Int) d == 0) then [(m:Int)] else []) := by
 unfold keptM;rw [List.range_succ,List.filter_append,List.map_append];congr 1;simp only [List.filter_cons,List.filter_nil];split <;> rfl
theorem keptM_len (u:UseFile) (k d:Int) (m:Nat):(keptM u k d m).length <= m := by
 unfold keptM;rw [List.length_map];exact Nat.le_trans (List.length_filter_le _ _) (by simp)
theorem keptM_mem {u:UseFile} {k d:Int} {m:Nat} {v:Int}:v ∈ keptM u k d m ↔ ∃ j:Nat,j < m /\ (left u k (j:Int) d = 1 \/ left u k (j:Int) d = 0) /\ v = (j:Int) := by
 unfold keptM;simp only [List.mem_map,List.mem_filter,List.mem_range,Bool.or_eq_true,beq_iff_eq];constructor
 ·rintro ⟨j,⟨h1,h2⟩,rfl⟩; exact ⟨j,h1,h2,rfl⟩
 ·rintro ⟨j,h1,h2,rfl⟩; exact ⟨j,⟨h1,h2⟩,rfl⟩
theorem keptM_ok {t:GTab} {e:Int} (he:0 <= e /\ e < (t.eds.length:Int)) {u:UseFile} {k d:Int} {m:Nat} (hm:m <= (t.items e).length):ListOk t e (keptM u k d m) := by
 refine ⟨fun v hv => ?_,?_⟩
 ·obtain ⟨j,h1,_,rfl⟩ := keptM_mem.1 hv;exact ⟨he.1,he.2,by omega,by omega⟩
 ·unfold keptM;rw [List.pairwise_map];exact (List.Pairwise.sublist List.filter_sublist List.pairwise_lt_range).imp fun h => by omega
theorem keptM_sub {u x:UseFile} {k d:Int} {m:Nat} (h:∀ j:Nat,rk (left u k (j:Int) d) <= rk (left x k (j:Int) d)):∀ v ∈ keptM u k d m,v ∈ keptM x k d m := by
 intro v hv;obtain ⟨j,h1,h2,rfl⟩ := keptM_mem.1 hv;refine keptM_mem.2 ⟨j,h1,?_,rfl⟩;have := h j;rcases left_vals x k (j:Int) d with e | e | e
 ·exact .inr e
 ·exact .inl e
 ·exfalso;unfold rk at this;rw [if_pos e] at this;rcases h2 with h2 | h2 <;> rw [h2] at this <;> simp at this
theorem kept_keptM (u:UseFile) (k d:Int) (m:Nat):∀ v ∈ kept u k d m,v ∈ keptM u k d m := by
 intro v hv;obtain ⟨j,h1,h2,rfl⟩ := kept_mem.1 hv;exact keptM_mem.2 ⟨j,h1,.inl h2,rfl⟩
theorem listT_len (s:Te.Items):(listT s).length <= 8 := by
 unfold listT;rw [List.length_map];exact Nat.le_trans (List.length_filter_le _ _) (by simp)
def kinF (t:GTab) (a b:Int) (x y:List Int):Int × Int :=
 (nearF t (if b > a then b else a) (listT (coverAt t a (if b > a then b else a) x).1) (listT (coverAt t b (if b > a then b else a) y).1),nearF t (if b > a then b else a) (listT (coverAt t a (if b > a then b else a) x).2) (listT (coverAt t b (if b > a then b else a) y).2))
theorem kinF_mono {t:GTab} {a b:Int} {x x' y:List Int} (h:∀ v ∈ x,v ∈ x'):(kinF t a b x y).1 <= (kinF t a b x' y).1 /\ (kinF t a b x y).2 <= (kinF t a b x' y).2 := by
 obtain ⟨u1,u2⟩ := cover_up t a (if b > a then b else a) h;exact ⟨nearF_mono (listT_sub u1) fun _ h => h,nearF_mono (listT_sub u2) fun _ h => h⟩
end Go.TM
namespace Go.Proofs.YtfkfohpnpljihaaGreatDoor
open Go Go.TM Go.Proofs Go.Conc
attribute [local irreducible] T.wp CV FWK
attribute [local irreducible] nearF
theorem c3177 {h:LH} {f:TabC} {t:GTab} (hr:TabR h.get f t) (ok:TabOk t) {e:Int} (he:0 <= e /\ e < (t.eds.length:Int)) {p:Option Addr} {n c:Nat} {l:List Int} (hl:Sl IntE 1 h.get p n l) (ho:ListOk t e l) :
  Gr Tryz.prog 70 #[tabV f,.int .i64 e,.slice p n c] h fun r _ => r = .int .i64 0 := by
 refine w3177 _ _ _ _ _ _ _ _ _ _ _ _ _ X0_ok ?_;unfold n3177;refine t_buildG und106 infL (by decide) (by decide) (cells := #[.slice p n c]) (by kernel_rfl) fun r h1 le1 _ e1 => ?_;refine gZ ?_;refine t_gr (c3133 (hr.le le1.1) ok he (sl_one e1 (hl.le IntE.grow le1.1)) fun l' hm => ?_) ?_
 ·rw [List.mem_singleton] at hm; subst hm; exact ho
 rintro _ h2 le2 rfl;unfold tabV;refine gZ ?_;exact t_ret ⟨LH.le_trans le1 le2,rfl⟩
theorem c3154 {h:LH} (hch:h.chans = []) (hpe:h.pend = []) {f:TabC} {t:GTab} (hr:TabR h.get f t) (ok:TabOk t) {a b:Int} (ha:0 <= a /\ a < (t.eds.length:Int)) (hb:0 <= b /\ b < (t.eds.length:Int)) {p q:Option Addr} {n c m d:Nat} {x y:List Int} (hx:Sl IntE 1 h.get p n x) (ox:ListOk t a x) (hy:Sl IntE 1 h.get q m y) (oy:ListOk t b y) :
  FW (XG lk) Tryz.prog 37 #[tabV f,.int .i64 a,.slice p n c,.int .i64 b,.slice q m d] h fun r h' => Rd h.get h'.get /\ h'.chans = [] /\ h'.pend = [] /\ h'.todo = h.todo /\ r = .tuple #[.agg #[.int .i64 (kinF t a b x y).1,.int .i64 (kinF t a b x y).2],.int .i64 0] := by
 refine w3154 _ _ _ _ _ _ _ _ _ _ _ _ _ _ _ _ _ XG_ok ?_;unfold n3154;refine t_gr (c3177 hr ok ha hx ox) ?_;rintro _ h1 le1 rfl;refine gZ ?_;refine t_cond (fun e => by cases e) (fun _ => ?_);refine t_gr (c3177 (hr.le le1.1) ok hb (hy.le IntE.grow le1.1) oy) ?_;rintro _ h2 le2 rfl;have le02 := LH.le_trans le1 le2;refine gZ ?_;refine t_cond (fun e => by cases e) (fun _ => ?_);have hL:0 <= (if b > a then b else a) /\ (if b > a then b else a) < (t.eds.length:Int) := by split <;> omega
 unfold kinF;generalize (if b > a then b else a) = L at hL ⊢;refine gZ ?_;refine t_gr (c3162 (hr.le le02.1) ok ha hL (hx.le IntE.grow le02.1) (ox.in8 ok)) ?_;rintro _ h3 le3 rfl;have le03 := LH.le_trans le02 le3;refine gZ ?_;refine t_gr (c3162 (hr.le le03.1) ok hb hL (hy.le IntE.grow le03.1) (oy.in8 ok)) ?_;rintro _ h4 le4 rfl;have le04 := LH.le_trans le03 le4;refine gZ ?_;refine t_gr (c3163 _) ?_;rintro _ h5 le5 ⟨p1,n1,c1,rfl,_,s1⟩;have le05 := LH.le_trans le04 le5;refine gZ ?_;refine t_gr (c3163 _) ?_;rintro _ h6 le6 ⟨p2,n2,c2,rfl,_,s2⟩;have le06 := LH.le_trans le05 le6;refine gZ ?_;refine t_call (c3178 (by rw [le06.2.1,hch]) (by rw [le06.2.2.1,hpe]) (hr.le le06.1) L (s1.le IntE.grow le6.1) s2 (Nat.le_trans (listT_len _) (by decide))) ?_;rintro _ h7 ⟨rd7,c7,q7,t7,rfl⟩;have rd07 := (Rd.of_le le06.1).trans rd7;refine gZ ?_;refine t_gr (c3163 _) ?_;rintro _ h8 le8 ⟨p3,n3,c3,rfl,_,s3⟩;refine gZ ?_;refine t_gr (c3163 _) ?_;rintro _ h9 le9 ⟨p4,n4,c4,rfl,_,s4⟩;have le79 := LH.le_trans le8 le9;refine gZ ?_;refine t_call (c3178 (by rw [le79.2.1,c7]) (by rw [le79.2.2.1,q7]) (hr.rd (rd07.trans (Rd.of_le le79.1))) L (s3.le IntE.grow le9.1) s4 (Nat.le_trans (listT_len _) (by decide))) ?_;rintro _ h10 ⟨rd10,c10,q10,t10,rfl⟩;refine gZ ?_;exact t_ret ⟨(rd07.trans (Rd.of_le le79.1)).trans rd10,c10,q10,by rw [t10,le79.2.2.2,t7,le06.2.2.2],rfl⟩
set_option maxRecDepth 10000 in
theorem c3109m {h:LH} (hp:Parts h.get) {f:FileC} {u:UseFile} (hu:FileR h.get f u) (hck:checkF u = 0) {k d:Int} (hk:0 <= k /\ k < u.lands) (hd:0 <= d /\ d <= 2000) {g:TabC} {t:GTab} (hr:TabR h.get g t) {e:Int} (he:0 <= e /\ e < (t.eds.length:Int)) :
  Gr Tryz.prog 36 #[fileV f u,.int .i64 k,.int .i64 d,tabV g,.int .i64 e,.bool true] h fun r h' => ∃ p n c,r = .tuple #[.slice p n c,.bool true] /\ Sl IntE 1 h'.get p n (keptM u k d (min u.items.toNat (t.items e).length)) := by
 refine w3109 _ _ _ _ _ _ _ _ _ _ _ _ _ _ _ _ _ _ _ _ _ _ _ _ _ _ X0_ok ?_;unfold n3109;obtain ⟨⟨i1,i2⟩,_,_,_⟩ := num_ok (check_num hck);refine t_gr (c23 hp hu k d) ?_;intro r1 g1 le1 hr1;obtain ⟨p1,n1,k1,rfl,s1⟩ := hr1.form;rw [leftQ_ok hck hk hd,if_pos rfl] at s1;rw [leftQ_ok hck hk hd];have hl1:n1 = u.items.toNat := s1.1.trans (leftAll_len u k d);have hrg := hr.le le1.1;obtain ⟨l,a0,hle0,ha0,q0,m0,c0,e2,e3⟩ := hrg.eds.at (i := e.toNat) (by have := hrg.eds.1; omega);have hen:0 <= e /\ e < (g.n0:Int) := by have := hrg.eds.1; omega
 have hm0:m0 = (t.items e).length := by
  unfold GTab.items;rw [List.getD_eq_getElem?_getD,hle0]; exact e3.1
 rw [<- hl1,<- hm0];have hb1 := s1.2.1;have hb0 := e3.2.1;have hlen0 := e3.1;have hlen1 := s1.1;refine gZ ?_;refine t_loopB (fun mm vs h' => g1.le h' /\ ∃ (i:Nat) (p:Option Addr) (n c:Nat),vs = [.slice p n c,.int .i64 i] /\ i <= min n1 m0 /\ mm = min n1 m0 - i /\ Growing IntEnc 3 1 g1.get h'.get p n c (keptM u k d i))
  (fun vs h' => g1.le h' /\ ∃ (p:Option Addr) (n c:Nat),vs = [.slice p n c,.int .i64 (min n1 m0:Nat)] /\ Growing IntEnc 3 1 g1.get h'.get p n c (keptM u k d (min n1 m0)))
  ⟨LH.le_refl _,0,none,0,0,rfl,Nat.zero_le _,rfl,Growing.nil⟩ ?_ ?_
 ·rintro Y mm vs h2 hY ⟨le2,i,p,n,c,rfl,hi,rfl,gr⟩;have fin:¬ i < min n1 m0 -> g1.le h2 /\ ∃ (p':Option Addr) (n' c':Nat),[Value.slice p n c,.int .i64 (i:Int)] = [.slice p' n' c',.int .i64 (min n1 m0:Nat)] /\ Growing IntEnc 3 1 g1.get h2.get p' n' c' (keptM u k d (min n1 m0)) := fun hn => by
   have:i = min n1 m0 := by omega
   exact ⟨le2,p,n,c,by rw [this],by rw [<- this]; exact gr⟩
  have e2' := Cells.cell?_le le2.1 e2;refine gZ ?_;refine t_blk (fun vs h' => vs = [] /\ h2 = h' /\ i < min n1 m0) ?_ ?_
  ·refine t_if (fun e4 => ?_) (fun e4 => ?_)
   ·refine gZ ?_;refine t_if (fun e5 => ?_) (fun e5 => ?_)
    ·exact t_again ⟨rfl,rfl,by omega⟩
    ·refine gR ?_;refine t_cond (fun _ => ?_) (fun e => by cases e);refine gB ?_;exact gH (fin (by omega))
   ·refine gR ?_;refine t_cond (fun _ => ?_) (fun e => by cases e);refine gB ?_;exact gH (fin (by omega))
  rintro vs _ ⟨rfl,rfl,him⟩;obtain ⟨x,a,hx,ha,e4⟩ := (s1.le IntE.grow le2.1).at (i := i) (by omega);unfold IntE at e4;have hxl:x = left u k (i:Int) d := leftAll_get (by omega) hx;subst hxl;have hin:0 <= (i:Int) /\ (i:Int) < (n1:Int) := by omega
  have hks := keptM_succ u k d i;have hkl := keptM_len u k d i;have hng := gr.count IntEnc.len (by omega);refine gZ ?_;refine t_cond (fun b1 => ?_) (fun b1 => ?_)
  ·rw [b1,Bool.true_or,if_pos rfl] at hks;refine t_pushI gr le2 (by omega) fun p' c' h3 le3 g3 => ?_;refine gZ ?_;refine t_again (hY (min n1 m0 - (i + 1)) _ _ (by omega) ⟨le3,i + 1,p',n + 1,c',?_,by omega,rfl,by rw [hks]; exact g3⟩);rw [wrap_id (by omega) (by omega)]; rfl
  ·refine t_cond (fun _ => ?_) (fun e => by cases e);refine gZ ?_;refine t_cond (fun b2 => ?_) (fun b2 => ?_)
   ·rw [b1,b2,Bool.false_or,if_pos rfl] at hks;refine t_pushI gr le2 (by omega) fun p' c' h3 le3 g3 => ?_;refine gZ ?_;refine t_again (hY (min n1 m0 - (i + 1)) _ _ (by omega) ⟨le3,i + 1,p',n + 1,c',?_,by omega,rfl,by rw [hks]; exact g3⟩);rw [wrap_id (by omega) (by omega)]; rfl
   ·rw [b1,b2,Bool.false_or,if_neg (by simp),List.append_nil] at hks;refine t_again (hY (min n1 m0 - (i + 1)) _ _ (by omega) ⟨le2,i + 1,p,n,c,?_,by omega,rfl,by rw [hks]; exact gr⟩);rw [wrap_id (by omega) (by omega)]; rfl
 rintro vs h2 ⟨le2,p,n,c,rfl,gr⟩;have hkl := keptM_len u k d (min n1 m0);refine gZ ?_;refine t_cond (fun _ => ?_) (fun e => by cases e);have hit:((n1:Int) == u.items) = true := by simp; omega
 rw [hit];refine gZ ?_;exact t_ret ⟨LH.le_trans le1 le2,p,n,c,rfl,gr.sl IntEnc.len (by omega) IntEnc.e (by omega)⟩
theorem c3123 {h:LH} (hch:h.chans = []) (hpe:h.pend = []) (hp:Parts h.get) {f:FileC} {u:UseFile} (hu:FileR h.get f u) (hck:checkF u = 0) {k d:Int} (hk:0 <= k /\ k < u.lands) (hd:0 <= d /\ d <= 2000) {g:TabC} {t:GTab} (hr:TabR h.get g t) (ok:TabOk t) {e o:Int} (he:0 <= e /\ e < (t.eds.length:Int)) (ho:0 <= o /\ o < (t.eds.length:Int))
  {q:Option Addr} {m c:Nat} {b:List Int} (hb:Sl IntE 1 h.get q m b) (ob:ListOk t o b) :
  FW (XG lk) Tryz.prog 11 #[fileV f u,.int .i64 k,.int .i64 d,tabV g,.int .i64 e,.int .i64 o,.slice q m c] h fun r h' => Rd h.get h'.get /\ h'.chans = [] /\ h'.pend = [] /\ h'.todo = h.todo /\
   r = .tuple #[.agg #[.int .i64 (kinF t e o (kept u k d (min u.items.toNat (t.items e).length)) b).1,.int .i64 (kinF t e o (kept u k d (min u.items.toNat (t.items e).length)) b).2],.agg #[.int .i64 (kinF t e o (keptM u k d (min u.items.toNat (t.items e).length)) b).1,.int .i64 (kinF t e o (keptM u k d (min u.items.toNat (t.items e).length)) b).2],.bool true] := by
 refine w3123 _ _ _ _ _ _ _ _ _ _ _ _ _ _ _ _ _ _ _ _ _ _ _ _ _ _ _ _ _ XG_ok ?_;unfold n3123;refine t_gr (c3109 hp hu hck hk hd hr he) ?_;rintro _ h1 le1 ⟨p1,n1,c1,rfl,s1⟩;have o1 := kept_ok he (u := u) (k := k) (d := d) (Nat.min_le_right u.items.toNat (t.items e).length);generalize kept u k d (min u.items.toNat (t.items e).length) = A at *;refine gZ ?_;refine t_gr (c3109m (hp.le le1.1) (hu.le le1.1) hck hk hd (hr.le le1.1) he) ?_;rintro _ h2 le2 ⟨p2,n2,c2,rfl,s2⟩;have o2 := keptM_ok he (u := u) (k := k) (d := d) (Nat.min_le_right u.items.toNat (t.items e).length);generalize keptM u k d (min u.items.toNat (t.items e).length) = B at *;have le02 := LH.le_trans le1 le2;refine gZ ?_;refine t_call (c3154 (by rw [le02.2.1,hch]) (by rw [le02.2.2.1,hpe]) (hr.le le02.1) ok he ho (s1.le IntE.grow le2.1) o1 (hb.le IntE.grow le02.1) ob) ?_;rintro _ h3 ⟨rd3,c3,q3,t3,rfl⟩;have rd03 := (Rd.of_le le02.1).trans rd3;refine gZ ?_;refine t_call (c3154 c3 q3 (hr.rd rd03) ok he ho (s2.rd IntE.grow rd3) o2 (hb.rd IntE.grow rd03) ob) ?_;rintro _ h4 ⟨rd4,c4,q4,t4,rfl⟩;refine gZ ?_;refine t_cond (fun _ => ?_) (fun e => by cases e);refine t_cond (fun _ => ?_) (fun e => by cases e);refine t_cond (fun _ => ?_) (fun e => by cases e);refine gZ ?_;exact t_ret ⟨rd03.trans rd4,c4,q4,by rw [t4,t3,le02.2.2.2],rfl⟩
theorem t_shownG {h h':LH} {k:Bool -> T} {Q:Leaf -> LH -> Prop} (hch:h'.chans = []) (hpe:h'.pend = []) (hto:h'.todo = h.todo) (hp:Parts h'.get) (hk:∀ h'',h''.chans = [] /\ h''.pend = [] /\ h''.todo = h.todo -> (k true).wp (XG lk) Tryz.prog Q h'') :
  (T.call false 8 #[] fun v => T.unB v k).wp (XG lk) Tryz.prog Q h' := by
 refine t_call (FW.up (fin_shown hch hpe hp (LH.le_refl _))) ?_;rintro _ h'' ⟨rfl,h1,h2,h3⟩;exact gC (hk h'' ⟨h1,h2,by rw [<- hto]; exact h3⟩)
set_option maxRecDepth 20000 in
theorem c3102 {h:LH} (hch:h.chans = []) (hpe:h.pend = []) (hp:Parts h.get) {f:FileC} {u:UseFile} (hu:FileR h.get f u) (land:Int) (hl:0 <= land /\ land <= 255) (day:Int) (hd:0 <= day /\ day <= 65535) {q:Option Addr} {m cq:Nat} {y:Paper} (hy:Sl IntE 1 h.get q m y.items)
  {q':Option Addr} {m' cq':Nat} {z:Request} (hz:Sl IntE 1 h.get q' m' z.items) {g:TabC} {t:GTab} (hr:TabR h.get g t) (a:Int) (ha:0 <= a /\ a <= 255) (b:Int) (hb:0 <= b /\ b <= 255) (bits:Int) (hbits:0 <= bits /\ bits <= 255) :
  FW (XG lk) Tryz.prog 3 #[fileV f u,.int .u8 land,.int .u16 day,paperV y q m cq,reqV z q' m' cq',tabV g,.int .u8 a,.int .u8 b,.int .u8 bits] h (Fin h) := by
 refine w3102 _ _ _ _ _ _ _ _ _ _ _ _ _ _ _ _ _ _ _ _ _ _ _ _ _ _ _ _ _ _ _ _ _ _ _ _ _ _ XG_ok ?_;unfold n3102;refine t_blk (fun vs h' => vs = [.bool false] /\ h = h' /\ checkF u = 0 /\ TabOk t) ?_ ?_
 ·refine t_call (FW.top (c36 hu)) ?_;rintro _ _ ⟨rfl,bu,rfl,hbu⟩;refine gZ ?_;refine t_cond (fun _ => ?_) (fun hbf => ?_)
  ·refine t_shownG hch hpe rfl hp fun h' hh => ?_;refine gZ ?_;exact t_ret ⟨rfl,hh⟩
  have hck := hbu (by simpa using hbf);refine t_call (FW.top (c3108 hr)) ?_;rintro _ _ ⟨rfl,bt,rfl,hbt⟩;refine gZ ?_;refine t_cond (fun _ => ?_) (fun hbf => ?_)
  ·refine t_shownG hch hpe rfl hp fun h' hh => ?_;refine gZ ?_;exact t_ret ⟨rfl,hh⟩
  exact t_again ⟨rfl,rfl,hck,hbt (by simpa using hbf)⟩
 rintro vs _ ⟨rfl,rfl,hck,ok⟩;obtain ⟨⟨i1,i2⟩,⟨l1,l2⟩,⟨f1,f2⟩,⟨d1,d2⟩⟩ := num_ok (check_num hck);have hn0 := hr.eds.1;have hmany := ok.many;have hl0:u.lands ≠ 0 := by omega
 have ht0:(g.n0:Int) ≠ 0 := by omega
 have ek:Int.tmod (wrap .i64 land) u.lands = land % u.lands := by rw [wrap_u8 hl,tmod_nn hl.1]
 have ea:Int.tmod (wrap .i64 a) (g.n0:Int) = a % (g.n0:Int) := by rw [wrap_u8 ha,tmod_nn ha.1]
 have eb:Int.tmod (wrap .i64 b) (g.n0:Int) = b % (g.n0:Int) := by rw [wrap_u8 hb,tmod_nn hb.1]
 have hk := mod_pos (n := land) (b := u.lands) (by omega);have he := mod_pos (n := a) (b := (g.n0:Int)) (by omega);have ho := mod_pos (n := b) (b := (g.n0:Int)) (by omega);rw [ek,ea,eb];generalize land % u.lands = k at *;generalize a % (g.n0:Int) = e at *;generalize b % (g.n0:Int) = o at *;replace he:0 <= e /\ e < (t.eds.length:Int) := by omega
 replace ho:0 <= o /\ o < (t.eds.length:Int) := by omega
 clear ek ea eb;refine gZ ?_;refine t_pu (c37 hd) ?_;have hdd := mod_day (n := day);generalize day % 2001 = d at hdd;refine gZ ?_;have vu := Valid.of hck;refine t_gr (c3122 hr ok ho bits) ?_;rintro _ h1 le1 ⟨p1,n1,c1,O,rfl,sO,oO⟩;refine gZ ?_;refine t_call (c3123 (by rw [le1.2.1,hch]) (by rw [le1.2.2.1,hpe]) (hp.le le1.1) (hu.le le1.1) hck hk hdd (hr.le le1.1) ok he ho sO oO) ?_;rintro _ h2 ⟨rd2,c2,q2,t2,rfl⟩;have rd02 := (Rd.of_le le1.1).trans rd2;have sO2 := sO.rd IntE.grow rd2;have t02:h2.todo = h.todo := by rw [t2,le1.2.2.2]
 obtain ⟨k1,k2⟩ := kinF_mono (t := t) (a := e) (b := o) (y := O) (kept_keptM u k d (min u.items.toNat (t.items e).length));refine gZ ?_;refine t_blk (fun vs h' => vs = [.bool false] /\ h2 = h') ?_ ?_
 ·refine t_cond (fun e => by cases e) (fun _ => ?_);refine t_if (fun e => absurd e (by omega)) (fun _ => ?_);refine t_if (fun e => absurd e (by omega)) (fun _ => ?_);exact t_again ⟨rfl,rfl⟩
 rintro vs _ ⟨rfl,rfl⟩;refine gZ ?_;refine t_blk (fun vs h' => vs = [.bool false] /\ Rd h.get h'.get /\ h'.chans = [] /\ h'.pend = [] /\ h'.todo = h.todo /\ Sl IntE 1 h'.get p1 n1 O) ?_ ?_
 ·refine t_gr (c3110 (hu.rd rd02) hck (hy.rd IntE.grow rd02)) ?_;rintro _ h3 le3 ⟨f2,b2,rfl,hu2,hb2⟩;have rd03 := rd02.trans (Rd.of_le le3.1);unfold fileV;refine gZ ?_;refine t_cond (fun e2 => ?_) (fun _ => t_again ⟨rfl,rd03,by rw [le3.2.1,c2],by rw [le3.2.2.1,q2],by rw [le3.2.2.2,t02],sO2.le IntE.grow le3.1⟩);have ck2 := hb2 e2;refine t_call (c3123 (by rw [le3.2.1,c2]) (by rw [le3.2.2.1,q2]) (hp.rd rd03) hu2 ck2 hk hdd (hr.rd rd03) ok he ho (sO2.le IntE.grow le3.1) oO) ?_;rintro _ h4 ⟨rd4,c4,q4,t4,rfl⟩;have hyd := ((check_papers ck2).2 y (List.mem_append_right _ (List.mem_singleton.2 rfl))).2.1;obtain ⟨j1,j2⟩ := kinF_mono (t := t) (a := e) (b := o) (y := O) (kept_sub (m := min u.items.toNat (t.items e).length) fun j => (more_paper hyd k j).left vu (Valid.of ck2) rfl d);obtain ⟨j3,j4⟩ := kinF_mono (t := t) (a := e) (b := o) (y := O) (keptM_sub (m := min u.items.toNat (t.items e).length) fun j => (more_paper hyd k j).left vu (Valid.of ck2) rfl d);refine gZ ?_;refine t_cond (fun e => by cases e) (fun _ => ?_);refine t_if (fun e => absurd e (by simp only at *; omega)) (fun _ => ?_);refine t_if (fun e => absurd e (by simp only at *; omega)) (fun _ => ?_);refine t_if (fun e => absurd e (by simp only at *; omega)) (fun _ => ?_);refine t_if (fun e => absurd e (by simp only at *; omega)) (fun _ => ?_);exact t_again ⟨rfl,rd03.trans rd4,c4,q4,by rw [t4,le3.2.2.2,t02],(sO2.le IntE.grow le3.1).rd IntE.grow rd4⟩
 rintro vs h5 ⟨rfl,rd05,c5,q5,t5,sO5⟩;refine gZ ?_;refine t_gr (c3112 (hu.rd rd05) hck (hz.rd IntE.grow rd05)) ?_;rintro _ h6 le6 ⟨f6,b6,rfl,hu6,hb6⟩;have rd06 := rd05.trans (Rd.of_le le6.1);unfold fileV;refine gZ ?_;refine t_cond (fun e6 => ?_) (fun _ => ?_)
 ·have ck6 := hb6 e6;refine t_call (c3123 (by rw [le6.2.1,c5]) (by rw [le6.2.2.1,q5]) (hp.rd rd06) hu6 ck6 hk hdd (hr.rd rd06) ok he ho (sO5.le IntE.grow le6.1) oO) ?_;rintro _ h7 ⟨rd7,c7,q7,t7,rfl⟩;have sub1:∀ v ∈ kept { u with requests := u.requests ++ [z] } k d (min u.items.toNat (t.items e).length),v ∈ kept u k d (min u.items.toNat (t.items e).length) := kept_sub fun j => more_request;have sub2:∀ v ∈ keptM { u with requests := u.requests ++ [z] } k d (min u.items.toNat (t.items e).length),v ∈ keptM u k d (min u.items.toNat (t.items e).length) := keptM_sub fun j => more_request;obtain ⟨j1,j2⟩ := kinF_mono (t := t) (a := e) (b := o) (y := O) sub1;obtain ⟨j3,j4⟩ := kinF_mono (t := t) (a := e) (b := o) (y := O) sub2;refine gZ ?_;refine t_cond (fun e => by cases e) (fun _ => ?_);refine t_if (fun e => absurd e (by simp only at *; omega)) (fun _ => ?_);refine t_if (fun e => absurd e (by simp only at *; omega)) (fun _ => ?_);refine t_if (fun e => absurd e (by simp only at *; omega)) (fun _ => ?_);refine t_if (fun e => absurd e (by simp only at *; omega)) (fun _ => ?_);refine t_shownG c7 q7 (h := h) (by rw [t7,le6.2.2.2,t5]) (hp.rd (rd06.trans rd7)) fun h' hh => ?_;refine gZ ?_;exact t_ret ⟨rfl,hh⟩
 ·refine t_shownG (h := h) (by rw [le6.2.1,c5]) (by rw [le6.2.2.1,q5]) (by rw [le6.2.2.2,t5]) (hp.rd rd06) fun h' hh => ?_;refine gZ ?_;exact t_ret ⟨rfl,hh⟩
end Go.Proofs.YtfkfohpnpljihaaGreatDoor
end
section
namespace Go.TM
open Go Go.Conc Go.ChangeShapes Go.RowKit
section
variable {H:Type} {enc:TypeId × Value -> H}
theorem row_leavingG {C:Checked} {L:Go.Conc.Lib.WgLink} (lib:Go.Conc.Lib.WgLib C.prog L) {os:Os} {f:FuncId} {fn:Func} {s:ChangeSpec} {l:List (String × DataW Unit)} {tb:TypeId}
  (own:ownKnob C.prog.godebug = none) (started:os.Started) (hfn:C.prog.funcs[f]? = some fn) (hin:C.prog.inits.idxOf? f = none) (hv:s.vars = []) (lo:laidOutB C.prog = true)
  (hr:∀ t ∈ fn.params.toList,C.prog.readableRec t = true /\ t < C.prog.types.size) (hres:fn.resultTypes = #[tb]) (hb:C.prog.underlying tb = some .bool)
  (hs:∀ ds:List (DataW H),ds.length = fn.params.size -> s.fn H ds = { results := [.lit (.bool true)],args := ds })
  (witness:∃ (w:World) (tape:Tape) (i:Input),w.os = os /\ (w.forCall tape i).Shaped C.prog /\ i.vars = [] /\ Input.okWide C.prog (w.forCall tape i) .any w.heap.size f i /\
   ((s.pre enc C.prog fn [] false (w.forCall tape i).memory i.args /\ laidMetH C.prog l (w.forCall tape i).memory) /\ sizedMet enc C.prog fn (OpenSpec.ofChange s) false (w.forCall tape i).memory i.args) /\ ({}:Assume).holds C.prog (lone (Frame.enter C.prog f i.args .normal) [] (w.forCall tape i)))
  (runs:∀ (W:World) (base:Nat) (args:Array Value) (ds:List (DataW H)) (ps:List MemPlace),(∀ (j:Nat) t v,fn.params[j]? = some t -> args[j]? = some v -> Value.okWide C.prog W .any base t v) ->
   DataW.TrodAll enc C.prog W 0 (fun _ => true) true fn.params.toList args.toList ds ps -> (∀ (j:Nat) t d,fn.params.toList[j]? = some t -> ds[j]? = some d -> Light C.prog t d) -> laidMetH C.prog l W -> FWK (XG L) C.prog .normal f args ⟨getW W,[],[],[]⟩ fun r h' => r = .bool true /\ h'.pend = []) :
  ReturnsInLeavingWide {} C os f .any (fun w args => (s.pre enc C.prog fn [] false w args /\ laidMetH C.prog l w) /\ sizedMet enc C.prog fn (OpenSpec.ofChange s) false w args) (s.post enc C.prog fn false true false false) := by
 refine returnsInLeavingWide_of_good own started witness ?_;intro w tape i _ _ _ hok hpre _;obtain ⟨_,_,_,fn',hfn',_,_,_,_,hval⟩ := hok;have e:fn' = fn := Option.some.inj (hfn'.symm.trans hfn);subst e;obtain ⟨⟨⟨ds,gs,before,hw,_⟩,hx⟩,hz⟩ := hpre;have hz' := hz.weights hw;have hw' := DataW.Whole.of_heap (w' := w.forCall tape i) (by rfl) hw;have hx':laidMetH C.prog l (w.forCall tape i) := laidMetH.of_heap (by rfl) hx;generalize w.forCall tape i = W at hval hw' hx' ⊢;have hW' := hw';obtain ⟨p,q,hA,hV,rfl,_,_⟩ := hw';rw [hv] at hV;obtain ⟨rfl,rfl⟩ := trodVars_none hV;have hlight:∀ (j:Nat) t d,fn'.params.toList[j]? = some t -> ds[j]? = some d -> Light C.prog t d := by
  intro j t d ht hd n hn;have hm := DataW.weights_mem_each (P := C.prog) (ts := fn'.params.toList ++ s.plain.varTypes C.prog) (ds := ds ++ []) (j := j) (by rw [List.getElem?_append_left (List.getElem?_eq_some_iff.1 ht).1]; exact ht) (by rw [List.append_nil]; exact hd) n hn;have := List.all_eq_true.1 hz' n hm;simpa using this
 have hlt:∀ x ∈ p,x.block < W.heap.size := fun x hx => by simpa using hW'.lt x (by simpa using hx)
 have hlen:ds.length = fn'.params.size := by
  have:∀ {ts:List TypeId} {vs:List Value} {ds:List (DataW H)} {ps:List MemPlace},DataW.TrodAll enc C.prog W 0 (fun _ => true) true ts vs ds ps -> ds.length = ts.length := by
   intro ts
   induction ts with
   | nil => intro vs ds ps h; cases vs <;> cases ds <;> first | rfl | exact h.elim
   | cons t ts ih =>
    intro vs ds ps h;cases vs with
    | nil => exact h.elim
    | cons v vs =>
     cases ds with
     | nil => exact h.elim
     | cons d ds => obtain ⟨_,_,_,h2,_⟩ := h; simp [ih h2]
  simpa using this hA
 have hsf:s.fn H (ds ++ []) = { results := [.lit (.bool true)],args := ds } := by rw [List.append_nil]; exact hs ds hlen
 exact run_wellG lib (Φ := fun v w' => s.post enc C.prog fn' false true false false W.blind i.args v w'.blind) (getW_fits W) (getW_no W) (getW_whole W) hin (runs W _ i.args ds p hval hA hlight hx') (by
  rintro v h' ⟨rfl,hp⟩;refine ⟨hp,fun w' _ hk => ChangeSpec.post_blind ⟨ds,[],_,[],p,[],hW',?_,?_,?_,hk.below.frame _,fun h => by cases h⟩⟩
  ·rw [hsf,hres];exact trodAll_mk1 (shut_bool hb true)
  ·rw [hsf];exact trodAll_below lo hk.below hr hA hlt
  ·rw [hsf,hv]; rfl)
end
end Go.TM
end
section
namespace Go.Proofs.YtfkfohpnpljihaaGreatDoor
open Go Go.TM Go.Proofs Go.Proofs.YtfkfohpnpljihaaGreatDoor.Tre Go.ChangeShapes Go.WideShapes Go.RowKit
set_option maxRecDepth 100000
theorem door_met (os:Os) (args:Array Value):laidMetH Tryz.prog Rows.useKinRow.laid ((World.doorLaid Tryz.prog 200 os).forCall (fun _ _ => 0) ⟨#[],args,[]⟩).memory :=
 laidMetH_of_parts3 (fuel := 8) (laidMet_of_run' 8 (by kernel_rfl) (by kernel_rfl)) (by kernel_rfl) (by kernel_rfl)
theorem door_shaped (os:Os) (args:Array Value):((World.doorLaid Tryz.prog 200 os).forCall (fun _ _ => 0) ⟨#[],args,[]⟩).Shaped Tryz.prog :=
 World.shaped_of_RefB (by kernel_rfl) (by kernel_rfl)
theorem useKin_lifted (os:Os) (started:os.Started) (H:Type) (enc:TypeId × Value -> H) :
  ReturnsInLeavingWide {} Tryz.checked os 3 .any (fun w args => (Rows.useKinSpec.pre enc Tryz.prog Tryz.f3 [] false w args /\ laidMetH Tryz.prog Rows.useKinRow.laid w) /\ sizedMet enc Tryz.prog Tryz.f3 (OpenSpec.ofChange Rows.useKinSpec) false w args)
   (Rows.useKinSpec.post enc Tryz.prog Tryz.f3 false true false false) := by
 refine row_leavingG lib (C := Tryz.checked) (tb := 4) own started Tryz.func3 (by kernel_rfl) rfl lo ?_ (by kernel_rfl) Tryz.underlying4 ?_
  (ChangeSpec.witness_shaped (enc := enc) (C := Tryz.checked) (os := os) (X := fun w _ => laidMetH Tryz.prog Rows.useKinRow.laid w) false (World.doorLaid Tryz.prog 200 os) #[noUse,.int .u8 0,.int .u16 0,.agg #[.int .i64 0,.int .i64 0,.int .i64 0,.slice none 0 0],.agg #[.int .i64 0,.int .i64 0,.slice none 0 0],.agg #[.slice none 0 0,.slice none 0 0,.slice none 0 0],.int .u8 0,.int .u8 0,.int .u8 0] 8 rfl (door_shaped os _) (by kernel_rfl) (by kernel_rfl) (by kernel_rfl) (door_met os _)) ?_
 ·exact fun t ht => of_decide_eq_true (List.all_eq_true.1 (show (Tryz.f3.params.toList.all fun t => decide (Tryz.prog.readableRec t = true /\ t < Tryz.prog.types.size)) = true by kernel_rfl) t ht)
 ·intro ds hd
  match ds,(show ds.length = 9 from hd) with
  | [d0,d1,d2,d3,d4,d5,d6,d7,d8],_ => rfl
 ·intro W base args ds ps hval0 hA0 hz0 hL;have hval:∀ (j:Nat) t v,Tryz.f3.params[j]? = some t -> args[j]? = some v -> Value.okWide Tryz.prog W .any base t v := hval0;have hz:∀ (j:Nat) t d,Tryz.f3.params.toList[j]? = some t -> ds[j]? = some d -> Light Tryz.prog t d := hz0;have hA:DataW.TrodAll enc Tryz.prog W 0 (fun _ => true) true Tryz.f3.params.toList args.toList ds ps := hA0;rw [Tryz.params3] at hval hz hA;obtain ⟨v0,v1,v2,v3,v4,v5,v6,v7,v8,d0,d1,d2,d3,d4,d5,d6,d7,d8,q00,q01,q02,q03,q04,q05,q06,q07,q08,rfl,rfl,rfl,h0,h1,h2,h3,h4,h5,h6,h7,h8⟩ := trodAll9 hA;obtain ⟨f0,u0,rfl,hu0⟩ := file_arg UT (hval 0 26 v0 rfl rfl) (hz 0 26 d0 rfl rfl) h0;obtain ⟨x1,rfl,_,_,w1⟩ := open_int und5 (hval 1 5 v1 rfl rfl) h1;obtain ⟨x2,rfl,_,_,w2⟩ := open_int und57 (hval 2 27 v2 rfl rfl) h2;obtain ⟨q3,m3,k3,x3,rfl,s3⟩ := paper_arg UT (hval 3 32 v3 rfl rfl) (hz 3 32 d3 rfl rfl) h3;obtain ⟨q4,m4,k4,x4,rfl,s4⟩ := req_arg UT (hval 4 34 v4 rfl rfl) (hz 4 34 d4 rfl rfl) h4;obtain ⟨f5,u5,rfl,hu5⟩ := table_arg GT (hval 5 39 v5 rfl rfl) (hz 5 39 d5 rfl rfl) h5;obtain ⟨x6,rfl,_,_,w6⟩ := open_int und5 (hval 6 5 v6 rfl rfl) h6;obtain ⟨x7,rfl,_,_,w7⟩ := open_int und5 (hval 7 5 v7 rfl rfl) h7;obtain ⟨x8,rfl,_,_,w8⟩ := open_int und5 (hval 8 5 v8 rfl rfl) h8;exact FW.mono (c3102 (h := ⟨getW W,[],[],[]⟩) rfl rfl (parts_of_laid hL (by repeat first | exact List.Mem.head _ | apply List.Mem.tail)) hu0 x1 (wf_u8 w1) x2 (wf_u16 w2) s3 s4 hu5 x6 (wf_u8 w6) x7 (wf_u8 w7) x8 (wf_u8 w8)) fun r h' hq => ⟨hq.1,hq.2.2.1⟩
set_option maxHeartbeats 0 in
theorem useKin_closed:joinedFacts Tryz.prog 3 Tryz.f3 Rows.useKinSpec Rows.useKinRow = true := by
 unfold joinedFacts;simp only [Bool.and_eq_true]
 and_intros
 all_goals (as_aux_lemma => kernel_rfl)
theorem useKin_named:Tryz.prog.funcNamed Rows.useKinRow.func = some 3 := by kernel_rfl
theorem useKin_row:Rows.UseKinSaid :=
 OpenClaim.holds_of_wide_leaving 3 Tryz.f3 rfl rfl rfl rfl rfl rfl rfl ⟨rfl,rfl,rfl,rfl,rfl⟩ rfl rfl rfl rfl rfl useKin_named Tryz.func3 useKin_closed
  (of_decide_eq_true (by kernel_rfl)) (by unfold Func.isWrapper; first | (rw [if_pos (by decide +kernel)]; kernel_rfl) | (rw [if_neg (by decide +kernel)]; exact ⟨rfl,rfl⟩))
  (fun os started H enc _ => useKin_lifted os started H enc)
theorem useKin_holds:Rows.UseKinCardSaid :=
 card_goes [.funcs] true Rows.useKinCard.stood.harness false useKin_row (by kernel_rfl) useKin_row_tie rfl ⟨rfl,rfl⟩ (by kernel_rfl) rfl
  (fun f fn hf hfn => by
   obtain rfl:f = 3 := Option.some.inj (useKin_named.symm.trans hf) |>.symm;obtain rfl:fn = Tryz.f3 := (Option.some.inj (Tryz.func3.symm.trans hfn)).symm;exact ⟨by kernel_rfl,fun j t ht => by
    have hm := Array.mem_of_getElem? ht;have := of_decide_eq_true (List.all_eq_true.1 (show (Tryz.f3.params.toList.all fun t => decide (Tryz.prog.wantsStandIn t = false)) = true by kernel_rfl) t (Array.mem_toList_iff.2 hm));exact this⟩)
  (by kernel_rfl)
end Go.Proofs.YtfkfohpnpljihaaGreatDoor
end
#print axioms Go.Proofs.YtfkfohpnpljihaaGreatDoor.useKin_holds
