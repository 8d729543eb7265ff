/- UseAgreed: Agreed answers as the card says, two proofs made side by side. -/
import Derived.Test.YtfkfohpnpljihaaGreatDoorM6
set_option linter.all false
open Go.IntKind (wrap)
section
namespace Go.TM
open Go
def rk (s:Int):Int := if s = 2 then 0 else if s = 1 then 2 else 1
theorem rk_vals (s:Int):0 <= rk s /\ rk s <= 2 := by unfold rk; split <;> (try split) <;> omega
theorem safe_one_iff {u:UseFile} {k i d:Int} (hd:0 <= d) (hi:1 <= u.idle):safe u k i d = 1 ↔ InW u d u.from_ \/ ∃ p ∈ shown u k i,(window u d).first <= p.days.first /\ p.days.last <= d := by
 unfold safe
 by_cases e:isIn u.from_ (window u d).first d = true
 ·rw [if_pos e]
  simp only [true_iff]
  exact .inl (by simpa [isIn,InW] using e)
 ·rw [if_neg e,safeGo_one (by omega)]
  have h1:¬ InW u d u.from_ := fun h => e (by simp [isIn]; exact h)
  constructor
  ·rintro ⟨p,hp,hin⟩; exact .inr ⟨p,hp,(inside_def _ _).1 hin⟩
  ·rintro (h | ⟨p,hp,hin⟩)
   ·exact absurd h h1
   ·exact ⟨p,hp,(inside_def _ _).2 hin⟩
theorem safe_two_iff {u:UseFile} {k i d:Int} (hd:0 <= d) (hi:1 <= u.idle) (hv:∀ p ∈ shown u k i,p.days.first <= p.days.last):safe u k i d = 2 ↔ ¬ InW u d u.from_ /\ ∀ p ∈ shown u k i,¬ (p.days.first <= d /\ (window u d).first <= p.days.last) := by
 have hwb := window_bound hi (u := u) hd
 have hwl:(window u d).last = d := rfl
 unfold safe
 by_cases e:isIn u.from_ (window u d).first d = true
 ·rw [if_pos e]
  have:InW u d u.from_ := by simpa [isIn,InW] using e
  constructor
  ·intro h; omega
  ·intro h; exact absurd this h.1
 ·rw [if_neg e]
  have h1:¬ InW u d u.from_ := fun h => e (by simp [isIn]; exact h)
  constructor
  ·intro h
   obtain ⟨_,h2⟩ := safeGo_two h
   refine ⟨h1,fun p hp hm => ?_⟩
   have := (h2 p hp).1
   rw [(meets_def (by omega) (hv p hp)).2 ⟨by omega,hm.2⟩] at this; cases this
  ·rintro ⟨_,h2⟩
   refine safeGo_two' fun p hp => ?_
   have hno := h2 p hp
   have hvp := hv p hp
   constructor
   ·cases hm:meetsB (window u d) p.days with
    | false => rfl
    | true => exact absurd ((meets_def (by omega) hvp).1 hm) (by omega)
   ·cases hm:insideB (window u d) p.days with
    | false => rfl
    | true => have := (inside_def _ _).1 hm; exact absurd ⟨by omega,by omega⟩ hno
def Valid (u:UseFile):Prop := 1 <= u.idle /\ (∀ p ∈ u.papers,p.days.first <= p.days.last) /\ ∀ r ∈ u.requests,0 <= r.day /\ r.day <= 2000
theorem Valid.of {u:UseFile} (h:checkF u = 0):Valid u := ⟨(num_ok (check_num h)).2.2.2.1,fun p hp => ((check_papers h).2 p hp).2.1,(check_requests h).2⟩
theorem Valid.sh {u:UseFile} (v:Valid u) {k i:Int}:∀ p ∈ shown u k i,p.days.first <= p.days.last := fun p hp => v.2.1 p (List.mem_filter.1 hp).1
structure More (u o:UseFile) (k i:Int):Prop where
 frm:o.from_ = u.from_
 win:∀ d,0 <= d -> (window o d).first <= (window u d).first
 sub:∀ p ∈ shown u k i,p ∈ shown o k i
 ch:∀ ds,Choice (shown u k i) ds -> ∃ ds',Choice (shown o k i) ds' /\ ∀ d ∈ ds,d ∈ ds'
theorem More.inW {u o:UseFile} {k i:Int} (m:More u o k i) {d x:Int} (hd:0 <= d) (h:InW u d x):InW o d x := by
 have := m.win d hd
 unfold InW at *; omega
theorem More.safe {u o:UseFile} {k i:Int} (m:More u o k i) (vu:Valid u) (vo:Valid o) {d:Int} (hd:0 <= d):rk (safe u k i d) <= rk (safe o k i d) := by
 have ho := safe_vals o k i d
 have key1:TM.safe u k i d = 1 -> TM.safe o k i d = 1 := by
  rw [safe_one_iff hd vu.1,safe_one_iff hd vo.1]
  rintro (h | ⟨p,hp,h1,h2⟩)
  ·exact .inl (by rw [m.frm]; exact m.inW hd h)
  ·have := m.win d hd
   exact .inr ⟨p,m.sub p hp,by omega,h2⟩
 have key2:TM.safe o k i d = 2 -> TM.safe u k i d = 2 := by
  rw [safe_two_iff hd vu.1 vu.sh,safe_two_iff hd vo.1 vo.sh]
  rintro ⟨h1,h2⟩
  refine ⟨fun h => h1 (by rw [m.frm]; exact m.inW hd h),fun p hp hm => h2 p (m.sub p hp) ?_⟩
  have := m.win d hd
  omega
 rcases safe_vals u k i d with e | e | e
 ·rcases ho with e' | e' | e'
  ·rw [e,e']; exact Int.le_refl _
  ·rw [e,e']; decide
  ·rw [key2 e'] at e; omega
 ·rw [e,key1 e]; exact Int.le_refl _
 ·rw [e]; have := rk_vals (TM.safe o k i d); simp [rk]; exact this.1
theorem left_one_iff {u:UseFile} {k i d:Int}:left u k i d = 1 ↔ ∀ r ∈ against u k i d,safe u k i r.day = 1 := by
 unfold left
 by_cases e:((against u k i d).all fun r => decide (safe u k i r.day = 1)) = true
 ·rw [if_pos e]
  simp only [true_iff]
  intro r hr; simpa using List.all_eq_true.1 e r hr
 ·rw [if_neg e]
  constructor
  ·intro h; split at h <;> omega
  ·intro h
   exact absurd (List.all_eq_true.2 fun r hr => by simpa using h r hr) e
theorem left_two_iff {u:UseFile} {k i d:Int}:left u k i d = 2 ↔ left u k i d ≠ 1 /\ can u k i (against u k i d) = false := by
 unfold left
 by_cases e:((against u k i d).all fun r => decide (safe u k i r.day = 1)) = true
 ·rw [if_pos e]; simp
 ·rw [if_neg e]
  cases hc:can u k i (against u k i d) <;> simp
theorem rk_le {a b:Int} (ha:a = 0 \/ a = 1 \/ a = 2) (hb:b = 0 \/ b = 1 \/ b = 2) (h1:a = 1 -> b = 1) (h2:b = 2 -> a = 2):rk a <= rk b := by
 unfold rk
 rcases ha with rfl | rfl | rfl <;> rcases hb with rfl | rfl | rfl <;> simp at h1 h2 ⊢
theorem can_of_safe {u:UseFile} (vu:Valid u) {k i:Int} {L:List Request} (hL:∀ r ∈ L,0 <= r.day) (h:∀ r ∈ L,safe u k i r.day = 1):can u k i L = true := by
 rw [can_iff]
 have hch:∀ ps:List Paper,(∀ p ∈ ps,p.days.first <= p.days.last) -> Choice ps (ps.map fun p => p.days.first) := by
  intro ps
  induction ps with
  | nil => intro _; trivial
  | cons p ps ih => intro h; exact ⟨⟨Int.le_refl _,h p (by simp)⟩,ih fun q hq => h q (by simp [hq])⟩
 refine ⟨_,hch _ vu.sh,fun r hr => ?_⟩
 rcases (safe_one_iff (hL r hr) vu.1).1 (h r hr) with h1 | ⟨p,hp,h1,h2⟩
 ·exact .inl h1
 ·have := vu.sh p hp
  exact .inr ⟨_,List.mem_map.2 ⟨p,hp,rfl⟩,h1,by omega⟩
theorem More.left {u o:UseFile} {k i:Int} (m:More u o k i) (vu:Valid u) (vo:Valid o) (hr:o.requests = u.requests) (d:Int):rk (left u k i d) <= rk (left o k i d) := by
 have hag:against o k i d = against u k i d := by unfold against; rw [hr]
 have hmem:∀ r ∈ against u k i d,0 <= r.day /\ r.day <= 2000 := fun r h => vu.2.2 r (List.mem_filter.1 h).1
 refine rk_le (left_vals _ _ _ _) (left_vals _ _ _ _) ?_ ?_
 ·rw [left_one_iff,left_one_iff,hag]
  intro h r hr'
  have := m.safe vu vo (hmem r hr').1
  rw [h r hr'] at this
  rcases safe_vals o k i r.day with e | e | e
  ·rw [e] at this; exact absurd this (by decide)
  ·exact e
  ·rw [e] at this; exact absurd this (by decide)
 ·intro h
  obtain ⟨h1,h2⟩ := left_two_iff.1 h
  rw [hag] at h2
  have hnc:can u k i (against u k i d) = false := by
   cases hc:can u k i (against u k i d) with
   | false => rfl
   | true =>
    obtain ⟨ds,c1,c2⟩ := can_iff.1 hc
    obtain ⟨ds',c3,c4⟩ := m.ch ds c1
    rw [can_iff.2 ⟨ds',c3,fun r hr' => ?_⟩] at h2
    ·cases h2
    rcases c2 r hr' with hh | ⟨x,hx,hh⟩
    ·exact .inl (by rw [m.frm]; exact m.inW (hmem r hr').1 hh)
    ·exact .inr ⟨x,c4 x hx,m.inW (hmem r hr').1 hh⟩
  refine left_two_iff.2 ⟨fun h3 => ?_,hnc⟩
  rw [can_of_safe vu (fun r hr' => (hmem r hr').1) (left_one_iff.1 h3)] at hnc; cases hnc
theorem more_paper {u:UseFile} {p:Paper} (hp:p.days.first <= p.days.last) (k i:Int):More u { u with papers := u.papers ++ [p] } k i := by
 have hsh:shown { u with papers := u.papers ++ [p] } k i = shown u k i ++ (if showsB k i p then [p] else []) := by
  show (u.papers ++ [p]).filter (showsB k i) = _
  rw [List.filter_append]
  congr 1
  cases hs:showsB k i p <;> simp [hs]
 refine ⟨rfl,fun d _ => Int.le_refl _,fun q hq => by rw [hsh]; exact List.mem_append_left _ hq,fun ds hds => ?_⟩
 rw [hsh]
 by_cases hs:showsB k i p = true
 ·rw [if_pos hs]
  exact ⟨ds ++ [p.days.first],hds.snoc (Int.le_refl _) hp,fun d hd => List.mem_append_left _ hd⟩
 ·rw [if_neg hs,List.append_nil]
  exact ⟨ds,hds,fun d hd => hd⟩
end Go.TM
end
section
namespace Go.Proofs.YtfkfohpnpljihaaGreatDoor
open Go Go.TM Go.Proofs
attribute [local irreducible] T.wp CV FWK
def PaperB (h0:Cells) (h:Cells) (a:Addr) (x:Paper):Prop := ∃ q m c,(∀ (j:Nat) w,[Value.int .i64 x.days.first,.int .i64 x.days.last,.int .i64 x.land,.slice q m c][j]? = some w -> h.cell? (a.add j) = some w) /\ Sl IntE 1 h0 q m x.items
theorem paperTold {h0 h:Cells}:ToldE (PaperB h0) (PaperEnc h0) 4 h := by
 rintro a x ⟨q,m,c,h1,h2⟩
 exact ⟨_,⟨q,m,c,rfl,h2⟩,rfl,h1,fun w hw => by simp at hw; rcases hw with rfl | rfl | rfl | rfl <;> rfl⟩
theorem PaperB.of {h0 h:Cells} (hr:Rd h0 h) {p:Option Addr} {n:Nat} {l:List Paper} (s:Sl PaperE 4 h0 p n l):Sl (PaperB h0) 4 h p n l := by
 refine ⟨s.1,s.2.1,fun i x hx => ?_⟩
 obtain ⟨a,ha,h1,h2,h3,q,m,c,h4,h5⟩ := s.2.2 i x hx
 refine ⟨a,ha,q,m,c,fun j w hj => ?_,h5⟩
 match j,hj with
 | 0,hj => cases hj; exact hr _ _ h1
 | 1,hj => cases hj; exact hr _ _ h2
 | 2,hj => cases hj; exact hr _ _ h3
 | 3,hj => cases hj; exact hr _ _ h4
 | j + 4,hj => simp at hj
theorem row_stands {h h':Cells} {r:Nat} {cs:Array Value} {el:TypeId} {ws:List Value} (hr:h r = some (true,.cells cs el (0,0))) (hc:∀ (j:Nat) w,ws[j]? = some w -> cs[j]? = some w) (hk:h' r = h r) (j:Nat) (w:Value) (hj:ws[j]? = some w):h'.cell? ((⟨r,0,none⟩ : Addr).add j) = some w := by
 rw [add_plain,Nat.zero_add]
 unfold Cells.cell?
 rw [hk,hr]
 exact hc j w hj
section
variable {X:XP} {Q:Leaf -> LH -> Prop}
theorem copy_end1 {α:Type} {Enc:α -> List Value -> Prop} {h h₁:LH} {K:Value -> T} {tS el:TypeId} {s by_:Nat} {z:Value} {p:Option Addr} {n c:Nat} {l:List α} {x:α} {ws:List Value} {r:Nat} {cs:Array Value} (hu:Tryz.prog.underlying tS = some (.slice el)) (hi:(Tryz.prog.info? el).map (fun i => (i.size,i.bytes,i.zero)) = some (s,by_,some z)) (hsz:z.cells.size = s) (hb:by_ <= 1024) (hn:n + 1 <= 2 ^ 30)
  (g:Growing Enc el s h.get h₁.get p n c l) (hle:h.le h₁) (he:Enc x ws) (hl:ws.length = s) (one:∀ v ∈ ws,isOne v = true) (hr:h₁.get r = some (true,.cells cs el (0,0))) (hc:∀ (j:Nat) w,ws[j]? = some w -> cs[j]? = some w)
  (hk:∀ p' c' h',h.le h' -> Growing Enc el s h.get h'.get p' (n + 1) c' (l ++ [x]) -> (K (.slice p' (n + 1) c')).wp X Tryz.prog Q h'):(T.sem false (Builtin.append_ #[tS,tS] tS #[.slice p n c,.slice (some ⟨r,0,none⟩) 1 1]) K).wp X Tryz.prog Q h₁ :=
 t_grow (h₀ := h) (x := x) (ws := ws) rfl rfl hu hu hi hsz hb hn g hle he hl (fun j v hj => row_stands hr hc rfl j v hj) one fun p' c' h' a _ b => hk p' c' h' a b
end
def PaperEnd (h:LH) (f:FileC) (u:UseFile) (y:Paper) (vs:List Value) (h':LH):Prop := ∃ p n c,vs = [.int .i64 u.items,.int .i64 u.lands,.int .i64 u.from_,.int .i64 u.idle,.slice f.p4 f.n4 f.c4,.slice p n c,.slice f.p6 f.n6 f.c6] /\ h.le h' /\ FileR h'.get { f with p5 := p,n5 := n,c5 := c } { u with papers := u.papers ++ [y] }
theorem paperEnd_of {h h':LH} {f:FileC} {u:UseFile} {y:Paper} (hu:FileR h.get f u) (h8:u.papers.length <= 8) {p:Option Addr} {n c:Nat} (hle:h.le h') (g:Growing (PaperEnc h.get) 32 4 h.get h'.get p n c (u.papers ++ [y])):PaperEnd h f u y [.int .i64 u.items,.int .i64 u.lands,.int .i64 u.from_,.int .i64 u.idle,.slice f.p4 f.n4 f.c4,.slice p n c,.slice f.p6 f.n6 f.c6] h' :=
 ⟨p,n,c,rfl,hle,(hu.le hle.1).excuses,g.sl PaperEnc.len (by omega) (PaperEnc.e (Rd.of_le hle.1)) (by simp; omega),(hu.le hle.1).requests⟩
end Go.Proofs.YtfkfohpnpljihaaGreatDoor
end
section
namespace Go.TM
open Go
theorem can_sub {u:UseFile} {k i:Int} {L L':List Request} (h:∀ r ∈ L,r ∈ L') (hc:can u k i L' = true):can u k i L = true := by
 obtain ⟨ds,c1,c2⟩ := can_iff.1 hc
 exact can_iff.2 ⟨ds,c1,fun r hr => c2 r (h r hr)⟩
theorem left_sub {u o:UseFile} {k i d e:Int} (hs:∀ x,safe o k i x = safe u k i x) (hc:∀ L,can o k i L = can u k i L) (h:∀ r ∈ against u k i d,r ∈ against o k i e):rk (left o k i e) <= rk (left u k i d) := by
 refine rk_le (left_vals _ _ _ _) (left_vals _ _ _ _) ?_ ?_
 ·rw [left_one_iff,left_one_iff]
  intro hh r hr
  rw [<- hs]; exact hh r (h r hr)
 ·rw [left_two_iff,left_two_iff]
  rintro ⟨h1,h2⟩
  refine ⟨fun h3 => h1 (left_one_iff.2 fun r hr => ?_),?_⟩
  ·rw [<- hs]; exact left_one_iff.1 h3 r (h r hr)
  ·cases hcc:can o k i (against o k i e) with
   | false => rfl
   | true =>
    rw [hc] at hcc
    rw [can_sub h hcc] at h2; cases h2
theorem against_more {u:UseFile} {r:Request} {k i e:Int}:against { u with requests := u.requests ++ [r] } k i e = against u k i e ++ (if agB k i e r then [r] else []) := by
 show (u.requests ++ [r]).filter (agB k i e) = _
 rw [List.filter_append]
 congr 1
 cases hs:agB k i e r <;> simp [hs]
theorem can_req {u:UseFile} {r:Request} (k i:Int) (L:List Request):can { u with requests := u.requests ++ [r] } k i L = can u k i L := by
 rw [Bool.eq_iff_iff,can_iff,can_iff]
 exact Iff.rfl
theorem more_request {u:UseFile} {r:Request} {k i e:Int}:rk (left { u with requests := u.requests ++ [r] } k i e) <= rk (left u k i e) :=
 left_sub (fun _ => rfl) (fun L => can_req k i L) fun x hx => by rw [against_more]; exact List.mem_append_left _ hx
end Go.TM
end
section
namespace Go.Proofs.YtfkfohpnpljihaaGreatDoor
open Go Go.TM Go.Proofs
attribute [local irreducible] T.wp CV FWK
def ReqB (h0:Cells) (h:Cells) (a:Addr) (x:Request):Prop := ∃ q m c,(∀ (j:Nat) w,[Value.int .i64 x.day,.int .i64 x.land,.slice q m c][j]? = some w -> h.cell? (a.add j) = some w) /\ Sl IntE 1 h0 q m x.items
theorem reqTold {h0 h:Cells}:ToldE (ReqB h0) (ReqEnc h0) 3 h := by
 rintro a x ⟨q,m,c,h1,h2⟩
 exact ⟨_,⟨q,m,c,rfl,h2⟩,rfl,h1,fun w hw => by simp at hw; rcases hw with rfl | rfl | rfl <;> rfl⟩
theorem reqB_of {h0 h:Cells} (hr:Rd h0 h) {p:Option Addr} {n:Nat} {l:List Request} (s:Sl RequestE 3 h0 p n l):Sl (ReqB h0) 3 h p n l := by
 refine ⟨s.1,s.2.1,fun i x hx => ?_⟩
 obtain ⟨a,ha,h1,h2,q,m,c,h4,h5⟩ := s.2.2 i x hx
 refine ⟨a,ha,q,m,c,fun j w hj => ?_,h5⟩
 match j,hj with
 | 0,hj => cases hj; exact hr _ _ h1
 | 1,hj => cases hj; exact hr _ _ h2
 | 2,hj => cases hj; exact hr _ _ h4
 | j + 3,hj => simp at hj
def ReqEnd (h:LH) (f:FileC) (u:UseFile) (y:Request) (vs:List Value) (h':LH):Prop := ∃ p n c,vs = [.int .i64 u.items,.int .i64 u.lands,.int .i64 u.from_,.int .i64 u.idle,.slice f.p4 f.n4 f.c4,.slice f.p5 f.n5 f.c5,.slice p n c] /\ h.le h' /\ FileR h'.get { f with p6 := p,n6 := n,c6 := c } { u with requests := u.requests ++ [y] }
theorem reqEnd_of {h h':LH} {f:FileC} {u:UseFile} {y:Request} (hu:FileR h.get f u) (h8:u.requests.length <= 8) {p:Option Addr} {n c:Nat} (hle:h.le h') (g:Growing (ReqEnc h.get) 34 3 h.get h'.get p n c (u.requests ++ [y])):ReqEnd h f u y [.int .i64 u.items,.int .i64 u.lands,.int .i64 u.from_,.int .i64 u.idle,.slice f.p4 f.n4 f.c4,.slice f.p5 f.n5 f.c5,.slice p n c] h' :=
 ⟨p,n,c,rfl,hle,(hu.le hle.1).excuses,(hu.le hle.1).papers,g.sl ReqEnc.len (by omega) (ReqEnc.e (Rd.of_le hle.1)) (by simp; omega)⟩
theorem leftAll_get {u:UseFile} {k d:Int} {j:Nat} {y:Int} (hj:j < u.items.toNat) (hy:(leftAll u k d)[j]? = some y):y = left u k j d := by
 unfold leftAll at hy
 rw [List.getElem?_map,List.getElem?_range hj] at hy
 simpa using hy.symm
theorem leftAll_len (u:UseFile) (k d:Int):(leftAll u k d).length = u.items.toNat := by unfold leftAll; rw [List.length_map,List.length_range]
end Go.Proofs.YtfkfohpnpljihaaGreatDoor
end
section
namespace Go.Proofs.YtfkfohpnpljihaaGreatDoor
open Go Go.TM Go.Proofs
attribute [local irreducible] T.wp CV FWK
theorem c3110 {h:LH} {f:FileC} {u:UseFile} (hu:FileR h.get f u) (hck:checkF u = 0) {y:Paper} {q:Option Addr} {m cq:Nat} (hy:Sl IntE 1 h.get q m y.items) :
  Gr Tryz.prog 12 #[fileV f u,paperV y q m cq] h fun r h' => ∃ f' b,r = .tuple #[fileV f' { u with papers := u.papers ++ [y] },.bool b] /\ FileR h'.get f' { u with papers := u.papers ++ [y] } /\ (b = true -> checkF { u with papers := u.papers ++ [y] } = 0) := by
 refine w3110 _ _ _ _ _ _ _ _ _ _ _ _ _ _ _ _ _ _ _ X0_ok ?_
 unfold n3110
 have h8 := (check_papers hck).1
 have hn5 := hu.papers.1
 refine t_blk (PaperEnd h f u y) ?_ ?_
 ·have ones:∀ v ∈ [Value.int .i64 y.days.first,.int .i64 y.days.last,.int .i64 y.land,.slice q m cq],isOne v = true := by
   intro w hw; simp at hw; rcases hw with rfl | rfl | rfl | rfl <;> rfl
  have enc:PaperEnc h.get y [Value.int .i64 y.days.first,.int .i64 y.days.last,.int .i64 y.land,.slice q m cq] := ⟨q,m,cq,rfl,hy⟩
  obtain ⟨hB,hBe⟩ : ∃ hB,hB = h := ⟨_,rfl⟩
  have huB:FileR hB.get f u := by rw [hBe]; exact hu
  rw [<- hBe] at enc ⊢
  refine t_both ?_ ?_
  ·refine t_build0G (h₀ := hB) (Enc := PaperEnc hB.get) und23 inf69 (LH.le_refl _) fun r0 h1 hr0 le1 g1 => ?_
   refine gZ ?_
   refine t_both ?_ ?_
   ·refine t_copy (h₀ := hB) rfl rfl und23 und23 inf69 rfl (by omega) (by omega) g1 le1 (PaperB.of (Rd.of_le le1.1) huB.papers) paperTold fun p2 c2 h2 le2 _ g2 => ?_
    refine gZ ?_
    refine t_buildG und23 inf69 (by decide) (by decide) (cells := #[.int .i64 y.days.first,.int .i64 y.days.last,.int .i64 y.land,.slice q m cq]) (by kernel_rfl) fun r h3 le3 hr3 e3 => ?_
    refine gZ ?_
    refine copy_end1 (h := hB) und23 inf69 rfl (by omega) (by omega) (g2.le le3.1) (LH.le_trans le2 le3) enc rfl ones e3 (fun j w hj => by simpa using hj) fun p' c' h' le' g' => ?_
    refine gZ ?_
    exact t_again (paperEnd_of huB (by omega) le' g')
   ·refine t_buildG und23 inf69 (by decide) (by decide) (cells := #[.int .i64 y.days.first,.int .i64 y.days.last,.int .i64 y.land,.slice q m cq]) (by kernel_rfl) fun r h2 le2 hr2 e2 => ?_
    refine gZ ?_
    have le02 := LH.le_trans le1 le2
    refine t_copy (h₀ := hB) rfl rfl und23 und23 inf69 rfl (by omega) (by omega) (g1.le le2.1) le02 (PaperB.of (Rd.of_le le02.1) huB.papers) paperTold fun p3 c3 h3 le3 kp g3 => ?_
    refine gZ ?_
    have hne:r ≠ r0 := by
     rintro rfl
     obtain ⟨vs,⟨_,hh⟩,_⟩ := g1.row
     rcases hh with ⟨hh,_⟩ | ⟨r',cs,hh,h5,_⟩
     ·cases hh
     ·cases hh; rw [hr2] at h5; cases h5
    have e3 := kp r _ (fun a ha e => by cases ha; exact hne e.symm) e2
    refine copy_end1 (h := hB) und23 inf69 rfl (by omega) (by omega) g3 le3 enc rfl ones e3 (fun j w hj => by simpa using hj) fun p' c' h' le' g' => ?_
    refine gZ ?_
    exact t_again (paperEnd_of huB (by omega) le' g')
  ·refine t_buildG und23 inf69 (by decide) (by decide) (cells := #[.int .i64 y.days.first,.int .i64 y.days.last,.int .i64 y.land,.slice q m cq]) (by kernel_rfl) fun r h1 le1 hr1 e1 => ?_
   refine gZ ?_
   refine t_build0G (h₀ := hB) (Enc := PaperEnc hB.get) und23 inf69 le1 fun r0 h2 hr0 le2 g2 => ?_
   refine gZ ?_
   have le02 := LH.le_trans le1 le2
   refine t_copy (h₀ := hB) rfl rfl und23 und23 inf69 rfl (by omega) (by omega) g2 le02 (PaperB.of (Rd.of_le le02.1) huB.papers) paperTold fun p3 c3 h3 le3 kp g3 => ?_
   refine gZ ?_
   have hne:r ≠ r0 := by rintro rfl; rw [e1] at hr0; cases hr0
   have e3 := kp r _ (fun a ha e => by cases ha; exact hne e.symm) (le2.1 _ _ e1)
   refine copy_end1 (h := hB) und23 inf69 rfl (by omega) (by omega) g3 le3 enc rfl ones e3 (fun j w hj => by simpa using hj) fun p' c' h' le' g' => ?_
   refine gZ ?_
   exact t_again (paperEnd_of huB (by omega) le' g')
 rintro vs h1 ⟨p1,n1,c1,rfl,le1,ho⟩
 refine gZ ?_
 refine t_cond (fun _ => ?_) (fun _ => ?_)
 ·refine t_pu (c27 ho) ?_
  refine gZ ?_
  exact t_ret ⟨le1,_,_,rfl,ho,fun e => by simpa using e⟩
 ·refine gZ ?_
  refine t_both ?_ ?_
  ·refine gZ ?_
   exact t_ret ⟨le1,_,_,rfl,ho,fun e => by cases e⟩
  ·refine gZ ?_
   exact t_ret ⟨le1,_,_,rfl,ho,fun e => by cases e⟩
end Go.Proofs.YtfkfohpnpljihaaGreatDoor
end
section
namespace Go.TM
open Go Go.Conc
def kept (u:UseFile) (k d:Int) (m:Nat):List Int := ((List.range m).filter fun j:Nat => left u k (j:Int) d == 1).map fun j:Nat => (j:Int)
theorem kept_succ (u:UseFile) (k d:Int) (m:Nat):kept u k d (m + 1) = kept u k d m ++ (if left u k (m:Int) d == 1 then [(m:Int)] else []) := by
 unfold kept
 rw [List.range_succ,List.filter_append,List.map_append]
 congr 1
 simp only [List.filter_cons,List.filter_nil]
 split <;> rfl
theorem kept_len (u:UseFile) (k d:Int) (m:Nat):(kept u k d m).length <= m := by
 unfold kept
 rw [List.length_map]
 exact Nat.le_trans (List.length_filter_le _ _) (by simp)
theorem kept_mem {u:UseFile} {k d:Int} {m:Nat} {v:Int}:v ∈ kept u k d m ↔ ∃ j:Nat,j < m /\ left u k (j:Int) d = 1 /\ v = (j:Int) := by
 unfold kept
 simp only [List.mem_map,List.mem_filter,List.mem_range,beq_iff_eq]
 constructor
 ·rintro ⟨j,⟨h1,h2⟩,rfl⟩; exact ⟨j,h1,h2,rfl⟩
 ·rintro ⟨j,h1,h2,rfl⟩; exact ⟨j,⟨h1,h2⟩,rfl⟩
theorem kept_ok {t:GTab} {e:Int} (he:0 <= e /\ e < (t.eds.length:Int)) {u:UseFile} {k d:Int} {m:Nat} (hm:m <= (t.items e).length):ListOk t e (kept u k d m) := by
 refine ⟨fun v hv => ?_,?_⟩
 ·obtain ⟨j,h1,_,rfl⟩ := kept_mem.1 hv
  exact ⟨he.1,he.2,by omega,by omega⟩
 ·unfold kept
  rw [List.pairwise_map]
  exact (List.Pairwise.sublist List.filter_sublist List.pairwise_lt_range).imp fun h => by omega
theorem kept_sub {u x:UseFile} {k d:Int} {m:Nat} (h:∀ j:Nat,rk (left u k (j:Int) d) <= rk (left x k (j:Int) d)):∀ v ∈ kept u k d m,v ∈ kept x k d m := by
 intro v hv
 obtain ⟨j,h1,h2,rfl⟩ := kept_mem.1 hv
 refine kept_mem.2 ⟨j,h1,?_,rfl⟩
 have := h j
 unfold rk at this
 rw [h2] at this
 simp only [if_neg (show ¬ (1:Int) = 2 by decide),if_true] at this
 split at this
 ·omega
 ·split at this
  ·assumption
  ·omega
end Go.TM
namespace Go.Proofs.YtfkfohpnpljihaaGreatDoor
open Go Go.TM Go.Proofs
attribute [local irreducible] T.wp CV FWK
set_option maxRecDepth 10000 in
theorem c3109 {h:LH} (hp:Parts h.get) {f:FileC} {u:UseFile} (hu:FileR h.get f u) (hck:checkF u = 0) {k d:Int} (hk:0 <= k /\ k < u.lands) (hd:0 <= d /\ d <= 2000) {g:TabC} {t:GTab} (hr:TabR h.get g t) {e:Int} (he:0 <= e /\ e < (t.eds.length:Int)) :
  Gr Tryz.prog 36 #[fileV f u,.int .i64 k,.int .i64 d,tabV g,.int .i64 e,.bool false] h fun r h' => ∃ p n c,r = .tuple #[.slice p n c,.bool true] /\ Sl IntE 1 h'.get p n (kept u k d (min u.items.toNat (t.items e).length)) := by
 refine w3109 _ _ _ _ _ _ _ _ _ _ _ _ _ _ _ _ _ _ _ _ _ _ _ _ _ _ X0_ok ?_
 unfold n3109
 obtain ⟨⟨i1,i2⟩,_,_,_⟩ := num_ok (check_num hck)
 refine t_gr (c23 hp hu k d) ?_
 intro r1 g1 le1 hr1
 obtain ⟨p1,n1,k1,rfl,s1⟩ := hr1.form
 rw [leftQ_ok hck hk hd,if_pos rfl] at s1
 rw [leftQ_ok hck hk hd]
 have hl1:n1 = u.items.toNat := s1.1.trans (leftAll_len u k d)
 have hrg := hr.le le1.1
 obtain ⟨l,a0,hle0,ha0,q0,m0,c0,e2,e3⟩ := hrg.eds.at (i := e.toNat) (by have := hrg.eds.1; omega)
 have hen:0 <= e /\ e < (g.n0:Int) := by have := hrg.eds.1; omega
 have hm0:m0 = (t.items e).length := by
  unfold GTab.items
  rw [List.getD_eq_getElem?_getD,hle0]; exact e3.1
 rw [<- hl1,<- hm0]
 have hb1 := s1.2.1
 have hb0 := e3.2.1
 have hlen0 := e3.1
 have hlen1 := s1.1
 refine gZ ?_
 refine t_loopB (fun mm vs h' => g1.le h' /\ ∃ (i:Nat) (p:Option Addr) (n c:Nat),vs = [.slice p n c,.int .i64 i] /\ i <= min n1 m0 /\ mm = min n1 m0 - i /\ Growing IntEnc 3 1 g1.get h'.get p n c (kept u k d i))
  (fun vs h' => g1.le h' /\ ∃ (p:Option Addr) (n c:Nat),vs = [.slice p n c,.int .i64 (min n1 m0:Nat)] /\ Growing IntEnc 3 1 g1.get h'.get p n c (kept u k d (min n1 m0)))
  ⟨LH.le_refl _,0,none,0,0,rfl,Nat.zero_le _,rfl,Growing.nil⟩ ?_ ?_
 ·rintro Y mm vs h2 hY ⟨le2,i,p,n,c,rfl,hi,rfl,gr⟩
  have fin:¬ i < min n1 m0 -> g1.le h2 /\ ∃ (p':Option Addr) (n' c':Nat),[Value.slice p n c,.int .i64 (i:Int)] = [.slice p' n' c',.int .i64 (min n1 m0:Nat)] /\ Growing IntEnc 3 1 g1.get h2.get p' n' c' (kept u k d (min n1 m0)) := fun hn => by
   have:i = min n1 m0 := by omega
   exact ⟨le2,p,n,c,by rw [this],by rw [<- this]; exact gr⟩
  have e2' := Cells.cell?_le le2.1 e2
  refine gZ ?_
  refine t_blk (fun vs h' => vs = [] /\ h2 = h' /\ i < min n1 m0) ?_ ?_
  ·refine t_if (fun e4 => ?_) (fun e4 => ?_)
   ·refine gZ ?_
    refine t_if (fun e5 => ?_) (fun e5 => ?_)
    ·exact t_again ⟨rfl,rfl,by omega⟩
    ·refine gR ?_
     refine t_cond (fun _ => ?_) (fun e => by cases e)
     refine gB ?_
     exact gH (fin (by omega))
   ·refine gR ?_
    refine t_cond (fun _ => ?_) (fun e => by cases e)
    refine gB ?_
    exact gH (fin (by omega))
  rintro vs _ ⟨rfl,rfl,him⟩
  obtain ⟨x,a,hx,ha,e4⟩ := (s1.le IntE.grow le2.1).at (i := i) (by omega)
  unfold IntE at e4
  have hxl:x = left u k (i:Int) d := leftAll_get (by omega) hx
  subst hxl
  have hin:0 <= (i:Int) /\ (i:Int) < (n1:Int) := by omega
  have hks := kept_succ u k d i
  have hkl := kept_len u k d i
  have hng := gr.count IntEnc.len (by omega)
  refine gZ ?_
  refine t_cond (fun b1 => ?_) (fun b1 => ?_)
  ·rw [b1,if_pos rfl] at hks
   refine t_pushI gr le2 (by omega) fun p' c' h3 le3 g3 => ?_
   refine gZ ?_
   refine t_again (hY (min n1 m0 - (i + 1)) _ _ (by omega) ⟨le3,i + 1,p',n + 1,c',?_,by omega,rfl,by rw [hks]; exact g3⟩)
   rw [wrap_id (by omega) (by omega)]; rfl
  ·rw [b1,if_neg (by simp),List.append_nil] at hks
   refine t_cond (fun e => by cases e) (fun _ => ?_)
   refine t_again (hY (min n1 m0 - (i + 1)) _ _ (by omega) ⟨le2,i + 1,p,n,c,?_,by omega,rfl,by rw [hks]; exact gr⟩)
   rw [wrap_id (by omega) (by omega)]; rfl
 rintro vs h2 ⟨le2,p,n,c,rfl,gr⟩
 have hkl := kept_len u k d (min n1 m0)
 refine gZ ?_
 refine t_cond (fun _ => ?_) (fun e => by cases e)
 have hit:((n1:Int) == u.items) = true := by simp; omega
 rw [hit]
 refine gZ ?_
 exact t_ret ⟨LH.le_trans le1 le2,p,n,c,rfl,gr.sl IntEnc.len (by omega) IntEnc.e (by omega)⟩
theorem c3112 {h:LH} {f:FileC} {u:UseFile} (hu:FileR h.get f u) (hck:checkF u = 0) {y:Request} {q:Option Addr} {m cq:Nat} (hy:Sl IntE 1 h.get q m y.items) :
  Gr Tryz.prog 13 #[fileV f u,reqV y q m cq] h fun r h' => ∃ f' b,r = .tuple #[fileV f' { u with requests := u.requests ++ [y] },.bool b] /\ FileR h'.get f' { u with requests := u.requests ++ [y] } /\ (b = true -> checkF { u with requests := u.requests ++ [y] } = 0) := by
 refine w3112 _ _ _ _ _ _ _ _ _ _ _ _ _ _ _ _ _ _ X0_ok ?_
 unfold n3112
 have h8 := (check_requests hck).1
 have hn6 := hu.requests.1
 refine t_blk (ReqEnd h f u y) ?_ ?_
 ·have ones:∀ v ∈ [Value.int .i64 y.day,.int .i64 y.land,.slice q m cq],isOne v = true := by
   intro w hw; simp at hw; rcases hw with rfl | rfl | rfl <;> rfl
  have enc:ReqEnc h.get y [Value.int .i64 y.day,.int .i64 y.land,.slice q m cq] := ⟨q,m,cq,rfl,hy⟩
  obtain ⟨hB,hBe⟩ : ∃ hB,hB = h := ⟨_,rfl⟩
  have huB:FileR hB.get f u := by rw [hBe]; exact hu
  rw [<- hBe] at enc ⊢
  refine t_both ?_ ?_
  ·refine t_build0G (h₀ := hB) (Enc := ReqEnc hB.get) und24 inf64 (LH.le_refl _) fun r0 h1 hr0 le1 g1 => ?_
   refine gZ ?_
   refine t_both ?_ ?_
   ·refine t_copy (h₀ := hB) rfl rfl und24 und24 inf64 rfl (by omega) (by omega) g1 le1 (reqB_of (Rd.of_le le1.1) huB.requests) reqTold fun p2 c2 h2 le2 _ g2 => ?_
    refine gZ ?_
    refine t_buildG und24 inf64 (by decide) (by decide) (cells := #[.int .i64 y.day,.int .i64 y.land,.slice q m cq]) (by kernel_rfl) fun r h3 le3 hr3 e3 => ?_
    refine gZ ?_
    refine copy_end1 (h := hB) und24 inf64 rfl (by omega) (by omega) (g2.le le3.1) (LH.le_trans le2 le3) enc rfl ones e3 (fun j w hj => by simpa using hj) fun p' c' h' le' g' => ?_
    refine gZ ?_
    exact t_again (reqEnd_of huB (by omega) le' g')
   ·refine t_buildG und24 inf64 (by decide) (by decide) (cells := #[.int .i64 y.day,.int .i64 y.land,.slice q m cq]) (by kernel_rfl) fun r h2 le2 hr2 e2 => ?_
    refine gZ ?_
    have le02 := LH.le_trans le1 le2
    refine t_copy (h₀ := hB) rfl rfl und24 und24 inf64 rfl (by omega) (by omega) (g1.le le2.1) le02 (reqB_of (Rd.of_le le02.1) huB.requests) reqTold fun p3 c3 h3 le3 kp g3 => ?_
    refine gZ ?_
    have hne:r ≠ r0 := by
     rintro rfl
     obtain ⟨vs,⟨_,hh⟩,_⟩ := g1.row
     rcases hh with ⟨hh,_⟩ | ⟨r',cs,hh,h5,_⟩
     ·cases hh
     ·cases hh; rw [hr2] at h5; cases h5
    have e3 := kp r _ (fun a ha e => by cases ha; exact hne e.symm) e2
    refine copy_end1 (h := hB) und24 inf64 rfl (by omega) (by omega) g3 le3 enc rfl ones e3 (fun j w hj => by simpa using hj) fun p' c' h' le' g' => ?_
    refine gZ ?_
    exact t_again (reqEnd_of huB (by omega) le' g')
  ·refine t_buildG und24 inf64 (by decide) (by decide) (cells := #[.int .i64 y.day,.int .i64 y.land,.slice q m cq]) (by kernel_rfl) fun r h1 le1 hr1 e1 => ?_
   refine gZ ?_
   refine t_build0G (h₀ := hB) (Enc := ReqEnc hB.get) und24 inf64 le1 fun r0 h2 hr0 le2 g2 => ?_
   refine gZ ?_
   have le02 := LH.le_trans le1 le2
   refine t_copy (h₀ := hB) rfl rfl und24 und24 inf64 rfl (by omega) (by omega) g2 le02 (reqB_of (Rd.of_le le02.1) huB.requests) reqTold fun p3 c3 h3 le3 kp g3 => ?_
   refine gZ ?_
   have hne:r ≠ r0 := by rintro rfl; rw [e1] at hr0; cases hr0
   have e3 := kp r _ (fun a ha e => by cases ha; exact hne e.symm) (le2.1 _ _ e1)
   refine copy_end1 (h := hB) und24 inf64 rfl (by omega) (by omega) g3 le3 enc rfl ones e3 (fun j w hj => by simpa using hj) fun p' c' h' le' g' => ?_
   refine gZ ?_
   exact t_again (reqEnd_of huB (by omega) le' g')
 rintro vs h1 ⟨p1,n1,c1,rfl,le1,ho⟩
 refine gZ ?_
 refine t_cond (fun _ => ?_) (fun _ => ?_)
 ·refine t_pu (c27 ho) ?_
  refine gZ ?_
  exact t_ret ⟨le1,_,_,rfl,ho,fun e => by simpa using e⟩
 ·refine gZ ?_
  refine t_both ?_ ?_
  ·refine gZ ?_
   exact t_ret ⟨le1,_,_,rfl,ho,fun e => by cases e⟩
  ·refine gZ ?_
   exact t_ret ⟨le1,_,_,rfl,ho,fun e => by cases e⟩
end Go.Proofs.YtfkfohpnpljihaaGreatDoor
end
section
namespace Go.Proofs.YtfkfohpnpljihaaGreatDoor
open Go Go.TM Go.Proofs
set_option linter.unusedVariables false
set_option maxRecDepth 100000
variable {X:XP} {h:LH} {A:Value -> LH -> Prop}
noncomputable def n3106 (u_0 u_1 u_2 u_3:Int) (u_4p:Option Addr) (u_4n u_4c:Nat) (u_5p:Option Addr) (u_5n u_5c:Nat) (u_6p:Option Addr) (u_6n u_6c:Nat) (land day p_0 p_1 p_2:Int) (p_3p:Option Addr) (p_3n p_3c:Nat) (r_0 r_1:Int) (r_2p:Option Addr) (r_2n r_2c:Nat) (t_0p:Option Addr) (t_0n t_0c:Nat) (t_1p:Option Addr) (t_1n t_1c:Nat) (t_2p:Option Addr) (t_2n t_2c:Nat) (edition bits level:Int):T := .blk (.call false 6 #[.agg #[.int .i64 u_0,.int .i64 u_1,.int .i64 u_2,.int .i64 u_3,.slice u_4p u_4n u_4c,.slice u_5p u_5n u_5c,.slice u_6p u_6n u_6c]] fun v => .unB v fun b => bif !b then .call false 8 #[] fun v => .unB v fun b => .leaf (.retn [.bool b]) else .call false 7 #[.agg #[.slice t_0p t_0n t_0c,.slice t_1p t_1n t_1c,.slice t_2p t_2n t_2c]] fun v => .unB v fun b => bif !b then .call false 8 #[] fun v => .unB v fun b => .leaf (.retn [.bool b]) else .leaf (.again [.bool false])) (fun vs => .popB vs fun b vs => .unNil vs (.need (u_1 ≠ 0) (.need ((↑t_0n:Int) ≠ 0) (.need ((5:Int) ≠ 0) (.call false 9 #[.int .u16 day] fun v => .unI .i64 v fun n => .nd (.int .i64 (wrap .i64 (1 + Int.tmod (wrap .i64 level) 5))) (.need ((5:Int) ≠ 0) (.nd (.int .i64 (Int.tmod (wrap .i64 level) 5)) (.nd (.int .i64 (wrap .i64 level)) (.nd (.int .u8 level) (.need ((↑t_0n:Int) ≠ 0) (.nd (.int .i64 (Int.tmod (wrap .i64 edition) (↑t_0n:Int))) (.nd (.int .i64 (↑t_0n:Int)) (.nd (.slice t_0p t_0n t_0c) (.np 14 0 (.nd (.int .i64 (wrap .i64 edition)) (.nd (.int .u8 edition) (.need (u_1 ≠ 0) (.nd (.int .i64 (Int.tmod (wrap .i64 land) u_1)) (.nd (.int .i64 u_1) (.np 9 1 (.nd (.int .i64 (wrap .i64 land)) (.nd (.int .u8 land) (.nd (.int .i64 (wrap .i64 (1 + Int.tmod (wrap .i64 level) 5))) (.need ((5:Int) ≠ 0) (.nd (.int .i64 (Int.tmod (wrap .i64 level) 5)) (.nd (.int .i64 (wrap .i64 level)) (.nd (.int .u8 level) (.need ((↑t_0n:Int) ≠ 0) (.nd (.int .i64 (Int.tmod (wrap .i64 edition) (↑t_0n:Int))) (.nd (.int .i64 (↑t_0n:Int)) (.nd (.slice t_0p t_0n t_0c) (.np 14 0 (.nd (.int .i64 (wrap .i64 edition)) (.nd (.int .u8 edition) (.nd (.int .i64 (wrap .i64 (1 + Int.tmod (wrap .i64 level) 5))) (.need ((5:Int) ≠ 0) (.nd (.int .i64 (Int.tmod (wrap .i64 level) 5)) (.nd (.int .i64 (wrap .i64 level)) (.nd (.int .u8 level) (.need ((↑t_0n:Int) ≠ 0) (.nd (.int .i64 (Int.tmod (wrap .i64 edition) (↑t_0n:Int))) (.nd (.int .i64 (↑t_0n:Int)) (.nd (.slice t_0p t_0n t_0c) (.np 14 0 (.nd (.int .i64 (wrap .i64 edition)) (.nd (.int .u8 edition) (.nd (.int .i64 (wrap .i64 (1 + Int.tmod (wrap .i64 level) 5))) (.need ((5:Int) ≠ 0) (.nd (.int .i64 (Int.tmod (wrap .i64 level) 5)) (.nd (.int .i64 (wrap .i64 level)) (.nd (.int .u8 level) (.call false 10 #[.agg #[.slice t_0p t_0n t_0c,.slice t_1p t_1n t_1c,.slice t_2p t_2n t_2c],.int .i64 (Int.tmod (wrap .i64 edition) (↑t_0n:Int)),.int .u8 bits] fun v => .unS v fun a n_1 c => .call false 14 #[.agg #[.int .i64 u_0,.int .i64 u_1,.int .i64 u_2,.int .i64 u_3,.slice u_4p u_4n u_4c,.slice u_5p u_5n u_5c,.slice u_6p u_6n u_6c],.int .i64 (Int.tmod (wrap .i64 land) u_1),.int .i64 n,.agg #[.slice t_0p t_0n t_0c,.slice t_1p t_1n t_1c,.slice t_2p t_2n t_2c],.int .i64 (Int.tmod (wrap .i64 edition) (↑t_0n:Int)),.slice a n_1 c,.int .i64 (wrap .i64 (1 + Int.tmod (wrap .i64 level) 5))] fun v => .unTup v fun l => .unCons l fun v vs => .unI .i64 v fun n_2 => .unCons vs fun v vs => .unB v fun b_1 => .unNil vs (bif !b_1 then .leaf (.ret (.bool false)) else .blk (.call false 12 #[.agg #[.int .i64 u_0,.int .i64 u_1,.int .i64 u_2,.int .i64 u_3,.slice u_4p u_4n u_4c,.slice u_5p u_5n u_5c,.slice u_6p u_6n u_6c],.agg #[.int .i64 p_0,.int .i64 p_1,.int .i64 p_2,.slice p_3p p_3n p_3c]] fun v => .unTup v fun l => .unCons l fun v vs => .unAgg v fun l => .popI .i64 l fun n_3 vs_1 => .popI .i64 vs_1 fun n_4 vs_2 => .popI .i64 vs_2 fun n_5 vs_3 => .popI .i64 vs_3 fun n_6 vs_4 => .popS vs_4 fun a_1 n_7 c_1 vs_5 => .popS vs_5 fun a_2 n_8 c_2 vs_6 => .popS vs_6 fun a_3 n_9 c_3 vs_7 => .unNil vs_7 (.unCons vs fun v vs => .unB v fun b_2 => .unNil vs (bif b_2 then .call false 14 #[.agg #[.int .i64 n_3,.int .i64 n_4,.int .i64 n_5,.int .i64 n_6,.slice a_1 n_7 c_1,.slice a_2 n_8 c_2,.slice a_3 n_9 c_3],.int .i64 (Int.tmod (wrap .i64 land) u_1),.int .i64 n,.agg #[.slice t_0p t_0n t_0c,.slice t_1p t_1n t_1c,.slice t_2p t_2n t_2c],.int .i64 (Int.tmod (wrap .i64 edition) (↑t_0n:Int)),.slice a n_1 c,.int .i64 (wrap .i64 (1 + Int.tmod (wrap .i64 level) 5))] fun v => .unTup v fun l => .unCons l fun v vs => .unI .i64 v fun n => .unCons vs fun v vs => .unB v fun b_3 => .unNil vs (bif !b_3 then .leaf (.retn [.bool false]) else bif decide (n < n_2) then .leaf (.retn [.bool false]) else .leaf (.again [.bool b])) else .leaf (.again [.bool b])))) (fun vs => .popB vs fun b vs => .unNil vs (.call false 13 #[.agg #[.int .i64 u_0,.int .i64 u_1,.int .i64 u_2,.int .i64 u_3,.slice u_4p u_4n u_4c,.slice u_5p u_5n u_5c,.slice u_6p u_6n u_6c],.agg #[.int .i64 r_0,.int .i64 r_1,.slice r_2p r_2n r_2c]] fun v => .unTup v fun l => .unCons l fun v vs => .unAgg v fun l => .popI .i64 l fun n_3 vs_1 => .popI .i64 vs_1 fun n_4 vs_2 => .popI .i64 vs_2 fun n_5 vs_3 => .popI .i64 vs_3 fun n_6 vs_4 => .popS vs_4 fun a_1 n_7 c_1 vs_5 => .popS vs_5 fun a_2 n_8 c_2 vs_6 => .popS vs_6 fun a_3 n_9 c_3 vs_7 => .unNil vs_7 (.unCons vs fun v vs => .unB v fun b => .unNil vs (bif b then .call false 14 #[.agg #[.int .i64 n_3,.int .i64 n_4,.int .i64 n_5,.int .i64 n_6,.slice a_1 n_7 c_1,.slice a_2 n_8 c_2,.slice a_3 n_9 c_3],.int .i64 (Int.tmod (wrap .i64 land) u_1),.int .i64 n,.agg #[.slice t_0p t_0n t_0c,.slice t_1p t_1n t_1c,.slice t_2p t_2n t_2c],.int .i64 (Int.tmod (wrap .i64 edition) (↑t_0n:Int)),.slice a n_1 c,.int .i64 (wrap .i64 (1 + Int.tmod (wrap .i64 level) 5))] fun v => .unTup v fun l => .unCons l fun v vs => .unI .i64 v fun n => .unCons vs fun v vs => .unB v fun b => .unNil vs (bif !b then .leaf (.ret (.bool false)) else bif decide (n > n_2) then .leaf (.ret (.bool false)) else .call false 8 #[] fun v => .unB v fun b => .leaf (.ret (.bool b))) else .call false 8 #[] fun v => .unB v fun b => .leaf (.ret (.bool b)))))) (fun vs => .popB vs fun b vs => .unNil vs (.leaf (.ret (.bool b)))) fun x x_1 => .fail))))))))))))))))))))))))))))))))))))))))))))))))))))) (fun vs => .popB vs fun b vs => .unNil vs (.leaf (.ret (.bool b)))) fun x x_1 => .fail
theorem w3106 (u_0 u_1 u_2 u_3:Int) (u_4p:Option Addr) (u_4n u_4c:Nat) (u_5p:Option Addr) (u_5n u_5c:Nat) (u_6p:Option Addr) (u_6n u_6c:Nat) (land day p_0 p_1 p_2:Int) (p_3p:Option Addr) (p_3n p_3c:Nat) (r_0 r_1:Int) (r_2p:Option Addr) (r_2n r_2c:Nat) (t_0p:Option Addr) (t_0n t_0c:Nat) (t_1p:Option Addr) (t_1n t_1c:Nat) (t_2p:Option Addr) (t_2n t_2c:Nat) (edition bits level:Int):FX X 4 #[.agg #[.int .i64 u_0,.int .i64 u_1,.int .i64 u_2,.int .i64 u_3,.slice u_4p u_4n u_4c,.slice u_5p u_5n u_5c,.slice u_6p u_6n u_6c],.int .u8 land,.int .u16 day,.agg #[.int .i64 p_0,.int .i64 p_1,.int .i64 p_2,.slice p_3p p_3n p_3c],.agg #[.int .i64 r_0,.int .i64 r_1,.slice r_2p r_2n r_2c],.agg #[.slice t_0p t_0n t_0c,.slice t_1p t_1n t_1c,.slice t_2p t_2n t_2c],.int .u8 edition,.int .u8 bits,.int .u8 level] h A (n3106 u_0 u_1 u_2 u_3 u_4p u_4n u_4c u_5p u_5n u_5c u_6p u_6n u_6c land day p_0 p_1 p_2 p_3p p_3n p_3c r_0 r_1 r_2p r_2n
  r_2c t_0p t_0n t_0c t_1p t_1n t_1c t_2p t_2n t_2c edition bits level) := fk [9,12,13,14,26,30] [] [⟨13,[(18,.bool)],[9,12,13,14],[],[],[]⟩,⟨3,[(18,.bool)],[9,12,13,14],[],[],[]⟩] Tryz.f4
end Go.Proofs.YtfkfohpnpljihaaGreatDoor
end
section
namespace Go.TM
open Go Go.TM.Ma
theorem pairs_sub {t:GTab} {e lev:Int} {a a' b:List Int} (h:∀ v ∈ a,v ∈ a'):∀ p ∈ pairsF t e lev a b [] [],p ∈ pairsF t e lev a' b [] [] := fun p hp => by
 obtain ⟨h1,h2⟩ := mem_pairs.1 hp
 exact mem_pairs.2 ⟨h _ h1,h2⟩
end Go.TM
namespace Go.Proofs.YtfkfohpnpljihaaGreatDoor
open Go Go.TM Go.Proofs Go.TM.Ma
attribute [local irreducible] T.wp CV FWK
theorem wrap_lev {level:Int} (hl:0 <= level /\ level <= 255):wrap .i64 (1 + Int.tmod (wrap .i64 level) 5) = 1 + level % 5 := by
 rw [wrap_u8 hl,tmod_nn hl.1,wrap_id (by omega) (by omega)]
theorem c3129 {h:LH} (hp:Parts h.get) {f:FileC} {u:UseFile} (hu:FileR h.get f u) (hck:checkF u = 0) {k d:Int} (hk:0 <= k /\ k < u.lands) (hd:0 <= d /\ d <= 2000) {g:TabC} {t:GTab} (hr:TabR h.get g t) (ok:TabOk t) {e lev:Int} (he:0 <= e /\ e < (t.eds.length:Int)) (hlev:1 <= lev /\ lev <= 5)
  {q:Option Addr} {m c:Nat} {b:List Int} (hb:Sl IntE 1 h.get q m b) (ob:ListOk t e b) :
  Gr Tryz.prog 14 #[fileV f u,.int .i64 k,.int .i64 d,tabV g,.int .i64 e,.slice q m c,.int .i64 lev] h fun r _ => ∃ j:Nat,r = .tuple #[.int .i64 j,.bool true] /\ Mat (pairsF t e lev (kept u k d (min u.items.toNat (t.items e).length)) b [] []) j /\ Cov (pairsF t e lev (kept u k d (min u.items.toNat (t.items e).length)) b [] []) j := by
 refine w3129 _ _ _ _ _ _ _ _ _ _ _ _ _ _ _ _ _ _ _ _ _ _ _ _ _ _ _ _ _ X0_ok ?_
 unfold n3129
 refine t_gr (c3109 hp hu hck hk hd hr he) ?_
 rintro _ h1 le1 ⟨p1,n1,c1,rfl,s1⟩
 have o1 := kept_ok he (u := u) (k := k) (d := d) (Nat.min_le_right u.items.toNat (t.items e).length)
 generalize kept u k d (min u.items.toNat (t.items e).length) = A at *
 refine gZ ?_
 refine t_gr (c3164 (hr.le le1.1) ok he hlev s1 o1 (hb.le IntE.grow le1.1) ob) ?_
 rintro _ h2 le2 ⟨pA,nA,cA,pB,nB,cB,pC,nC,cC,j,rfl,hsum,hM,hC⟩
 have hj:j <= 28 := Nat.le_trans hM.len (pairs_few ok hlev.1 o1 o1.nodup ob.nodup)
 refine gZ ?_
 refine t_cond (fun _ => ?_) (fun e => by cases e)
 refine t_ret ⟨LH.le_trans le1 le2,j,?_,hM,hC⟩
 rw [wrap_id (by omega) (by omega),show (nA:Int) + (nB:Int) = (j:Int) by omega]
 rfl
set_option maxRecDepth 20000 in
theorem c3106 {h:LH} (hch:h.chans = []) (hpe:h.pend = []) (hp:Parts h.get) {f:FileC} {u:UseFile} (hu:FileR h.get f u) (land:Int) (hl:0 <= land /\ land <= 255) (day:Int) (hd:0 <= day /\ day <= 65535) {q:Option Addr} {m cq:Nat} {y:Paper} (hy:Sl IntE 1 h.get q m y.items)
  {q':Option Addr} {m' cq':Nat} {z:Request} (hz:Sl IntE 1 h.get q' m' z.items) {g:TabC} {t:GTab} (hr:TabR h.get g t) (a:Int) (ha:0 <= a /\ a <= 255) (b:Int) (hb:0 <= b /\ b <= 255) (lv:Int) (hlv:0 <= lv /\ lv <= 255) :
  FW XT Tryz.prog 4 #[fileV f u,.int .u8 land,.int .u16 day,paperV y q m cq,reqV z q' m' cq',tabV g,.int .u8 a,.int .u8 b,.int .u8 lv] h (Fin h) := by
 refine w3106 _ _ _ _ _ _ _ _ _ _ _ _ _ _ _ _ _ _ _ _ _ _ _ _ _ _ _ _ _ _ _ _ _ _ _ _ _ _ XT_ok ?_
 unfold n3106
 refine t_blk (fun vs h' => vs = [.bool false] /\ h = h' /\ checkF u = 0 /\ TabOk t) ?_ ?_
 ·refine t_call (FW.top (c36 hu)) ?_
  rintro _ _ ⟨rfl,bu,rfl,hbu⟩
  refine gZ ?_
  refine t_cond (fun _ => ?_) (fun hbf => ?_)
  ·refine t_shown hch hpe hp (LH.le_refl _) fun h' hh => ?_
   refine gZ ?_
   exact t_ret ⟨rfl,hh⟩
  have hck := hbu (by simpa using hbf)
  refine t_call (FW.top (c3108 hr)) ?_
  rintro _ _ ⟨rfl,bt,rfl,hbt⟩
  refine gZ ?_
  refine t_cond (fun _ => ?_) (fun hbf => ?_)
  ·refine t_shown hch hpe hp (LH.le_refl _) fun h' hh => ?_
   refine gZ ?_
   exact t_ret ⟨rfl,hh⟩
  exact t_again ⟨rfl,rfl,hck,hbt (by simpa using hbf)⟩
 rintro vs _ ⟨rfl,rfl,hck,ok⟩
 obtain ⟨⟨i1,i2⟩,⟨l1,l2⟩,⟨f1,f2⟩,⟨d1,d2⟩⟩ := num_ok (check_num hck)
 have hn0 := hr.eds.1
 have hmany := ok.many
 have hl0:u.lands ≠ 0 := by omega
 have ht0:(g.n0:Int) ≠ 0 := by omega
 have ek:Int.tmod (wrap .i64 land) u.lands = land % u.lands := by rw [wrap_u8 hl,tmod_nn hl.1]
 have ea:Int.tmod (wrap .i64 a) (g.n0:Int) = a % (g.n0:Int) := by rw [wrap_u8 ha,tmod_nn ha.1]
 have hk := mod_pos (n := land) (b := u.lands) (by omega)
 have he := mod_pos (n := a) (b := (g.n0:Int)) (by omega)
 rw [ek,ea,wrap_lev hlv]
 have hlev:1 <= 1 + lv % 5 /\ 1 + lv % 5 <= 5 := by omega
 generalize land % u.lands = k at *
 generalize a % (g.n0:Int) = e at *
 generalize 1 + lv % 5 = lev at *
 replace he:0 <= e /\ e < (t.eds.length:Int) := by omega
 clear ek ea
 refine gZ ?_
 refine t_pu (c37 hd) ?_
 have hdd := mod_day (n := day)
 generalize day % 2001 = d at hdd
 refine gZ ?_
 have vu := Valid.of hck
 refine t_gr (c3122 hr ok he b) ?_
 rintro _ h1 le1 ⟨p1,n1,c1,O,rfl,sO,oO⟩
 refine gZ ?_
 refine t_gr (c3129 (hp.le le1.1) (hu.le le1.1) hck hk hdd (hr.le le1.1) ok he hlev sO oO) ?_
 rintro _ h2 le2 ⟨j0,rfl,M0,C0⟩
 have le02 := LH.le_trans le1 le2
 refine gZ ?_
 refine t_cond (fun e => by cases e) (fun _ => ?_)
 refine t_blk (fun vs h' => vs = [.bool false] /\ h2.le h') ?_ ?_
 ·refine t_gr (c3110 (hu.le le02.1) hck (hy.le IntE.grow le02.1)) ?_
  rintro _ h3 le3 ⟨f2,b2,rfl,hu2,hb2⟩
  unfold fileV
  refine gZ ?_
  refine t_cond (fun e2 => ?_) (fun _ => t_again ⟨rfl,le3⟩)
  have ck2 := hb2 e2
  have le03 := LH.le_trans le02 le3
  refine t_gr (c3129 (hp.le le03.1) hu2 ck2 hk hdd (hr.le le03.1) ok he hlev (sO.le IntE.grow (LH.le_trans le2 le3).1) oO) ?_
  rintro _ h4 le4 ⟨j1,rfl,M1,C1⟩
  have hyd := ((check_papers ck2).2 y (List.mem_append_right _ (List.mem_singleton.2 rfl))).2.1
  have hle := mono (pairs_sub (kept_sub fun j => (more_paper hyd k j).left vu (Valid.of ck2) rfl d)) M0 C1
  refine gZ ?_
  refine t_cond (fun e => by cases e) (fun _ => ?_)
  refine t_if (fun e => absurd e (by omega)) (fun _ => ?_)
  exact t_again ⟨rfl,LH.le_trans le3 le4⟩
 rintro vs h5 ⟨rfl,le25⟩
 have le05 := LH.le_trans le02 le25
 refine gZ ?_
 refine t_gr (c3112 (hu.le le05.1) hck (hz.le IntE.grow le05.1)) ?_
 rintro _ h6 le6 ⟨f6,b6,rfl,hu6,hb6⟩
 have le06 := LH.le_trans le05 le6
 unfold fileV
 refine gZ ?_
 refine t_cond (fun e6 => ?_) (fun _ => ?_)
 ·have ck6 := hb6 e6
  refine t_gr (c3129 (hp.le le06.1) hu6 ck6 hk hdd (hr.le le06.1) ok he hlev (sO.le IntE.grow (LH.le_trans le2 (LH.le_trans le25 le6)).1) oO) ?_
  rintro _ h7 le7 ⟨j2,rfl,M2,C2⟩
  have sub7:∀ v ∈ kept { u with requests := u.requests ++ [z] } k d (min u.items.toNat (t.items e).length),v ∈ kept u k d (min u.items.toNat (t.items e).length) := kept_sub fun j => more_request
  have hle := mono (pairs_sub sub7) M2 C0
  refine gZ ?_
  refine t_cond (fun e => by cases e) (fun _ => ?_)
  refine t_if (fun e => absurd e (by omega)) (fun _ => ?_)
  refine t_shown hch hpe hp (LH.le_trans le06 le7) fun h' hh => ?_
  refine gZ ?_
  exact t_ret ⟨rfl,hh⟩
 ·refine t_shown hch hpe hp le06 fun h' hh => ?_
  refine gZ ?_
  exact t_ret ⟨rfl,hh⟩
end Go.Proofs.YtfkfohpnpljihaaGreatDoor
end
section
namespace Go.Proofs.YtfkfohpnpljihaaGreatDoor
open Go Go.TM Go.Proofs Go.Proofs.YtfkfohpnpljihaaGreatDoor.Tre Go.ChangeShapes Go.WideShapes Go.RowKit
set_option maxRecDepth 100000
theorem door_met (os:Os) (args:Array Value):laidMetH Tryz.prog Rows.useAgreedRow.laid ((World.doorLaid Tryz.prog 200 os).forCall (fun _ _ => 0) ⟨#[],args,[]⟩).memory :=
 laidMetH_of_parts3 (fuel := 8) (laidMet_of_run' 8 (by kernel_rfl) (by kernel_rfl)) (by kernel_rfl) (by kernel_rfl)
theorem door_shaped (os:Os) (args:Array Value):((World.doorLaid Tryz.prog 200 os).forCall (fun _ _ => 0) ⟨#[],args,[]⟩).Shaped Tryz.prog :=
 World.shaped_of_RefB (by kernel_rfl) (by kernel_rfl)
theorem useAgreed_lifted (os:Os) (started:os.Started) (H:Type) (enc:TypeId × Value -> H) :
  ReturnsInLeavingWide {} Tryz.checked os 4 .any (fun w args => (Rows.useAgreedSpec.pre enc Tryz.prog Tryz.f4 [] false w args /\ laidMetH Tryz.prog Rows.useAgreedRow.laid w) /\ sizedMet enc Tryz.prog Tryz.f4 (OpenSpec.ofChange Rows.useAgreedSpec) false w args)
   (Rows.useAgreedSpec.post enc Tryz.prog Tryz.f4 false true false false) := by
 refine row_leaving (C := Tryz.checked) (tb := 4) own started Tryz.func4 (by kernel_rfl) rfl lo ?_ (by kernel_rfl) Tryz.underlying4 ?_
  (ChangeSpec.witness_shaped (enc := enc) (C := Tryz.checked) (os := os) (X := fun w _ => laidMetH Tryz.prog Rows.useAgreedRow.laid w) false (World.doorLaid Tryz.prog 200 os) #[noUse,.int .u8 0,.int .u16 0,.agg #[.int .i64 0,.int .i64 0,.int .i64 0,.slice none 0 0],.agg #[.int .i64 0,.int .i64 0,.slice none 0 0],.agg #[.slice none 0 0,.slice none 0 0,.slice none 0 0],.int .u8 0,.int .u8 0,.int .u8 0] 8 rfl (door_shaped os _) (by kernel_rfl) (by kernel_rfl) (by kernel_rfl) (door_met os _)) ?_
 ·exact fun t ht => of_decide_eq_true (List.all_eq_true.1 (show (Tryz.f4.params.toList.all fun t => decide (Tryz.prog.readableRec t = true /\ t < Tryz.prog.types.size)) = true by kernel_rfl) t ht)
 ·intro ds hd
  match ds,(show ds.length = 9 from hd) with
  | [d0,d1,d2,d3,d4,d5,d6,d7,d8],_ => rfl
 ·intro W base args ds ps hval0 hA0 hz0 hL
  have hval:∀ (j:Nat) t v,Tryz.f4.params[j]? = some t -> args[j]? = some v -> Value.okWide Tryz.prog W .any base t v := hval0
  have hz:∀ (j:Nat) t d,Tryz.f4.params.toList[j]? = some t -> ds[j]? = some d -> Light Tryz.prog t d := hz0
  have hA:DataW.TrodAll enc Tryz.prog W 0 (fun _ => true) true Tryz.f4.params.toList args.toList ds ps := hA0
  rw [Tryz.params4] at hval hz hA
  obtain ⟨v0,v1,v2,v3,v4,v5,v6,v7,v8,d0,d1,d2,d3,d4,d5,d6,d7,d8,q00,q01,q02,q03,q04,q05,q06,q07,q08,rfl,rfl,rfl,h0,h1,h2,h3,h4,h5,h6,h7,h8⟩ := trodAll9 hA
  obtain ⟨f0,u0,rfl,hu0⟩ := file_arg UT (hval 0 26 v0 rfl rfl) (hz 0 26 d0 rfl rfl) h0
  obtain ⟨x1,rfl,_,_,w1⟩ := open_int und5 (hval 1 5 v1 rfl rfl) h1
  obtain ⟨x2,rfl,_,_,w2⟩ := open_int und57 (hval 2 27 v2 rfl rfl) h2
  obtain ⟨q3,m3,k3,x3,rfl,s3⟩ := paper_arg UT (hval 3 32 v3 rfl rfl) (hz 3 32 d3 rfl rfl) h3
  obtain ⟨q4,m4,k4,x4,rfl,s4⟩ := req_arg UT (hval 4 34 v4 rfl rfl) (hz 4 34 d4 rfl rfl) h4
  obtain ⟨f5,u5,rfl,hu5⟩ := table_arg GT (hval 5 39 v5 rfl rfl) (hz 5 39 d5 rfl rfl) h5
  obtain ⟨x6,rfl,_,_,w6⟩ := open_int und5 (hval 6 5 v6 rfl rfl) h6
  obtain ⟨x7,rfl,_,_,w7⟩ := open_int und5 (hval 7 5 v7 rfl rfl) h7
  obtain ⟨x8,rfl,_,_,w8⟩ := open_int und5 (hval 8 5 v8 rfl rfl) h8
  exact FW.mono (c3106 (h := ⟨getW W,[],[],[]⟩) rfl rfl (parts_of_laid hL (by repeat first | exact List.Mem.head _ | apply List.Mem.tail)) hu0 x1 (wf_u8 w1) x2 (wf_u16 w2) s3 s4 hu5 x6 (wf_u8 w6) x7 (wf_u8 w7) x8 (wf_u8 w8)) fun r h' hq => ⟨hq.1,hq.2.2.1⟩
set_option maxHeartbeats 0 in
theorem useAgreed_closed:joinedFacts Tryz.prog 4 Tryz.f4 Rows.useAgreedSpec Rows.useAgreedRow = true := by
 unfold joinedFacts
 simp only [Bool.and_eq_true]
 and_intros
 all_goals (as_aux_lemma => kernel_rfl)
theorem useAgreed_named:Tryz.prog.funcNamed Rows.useAgreedRow.func = some 4 := by kernel_rfl
theorem useAgreed_row:Rows.UseAgreedSaid :=
 OpenClaim.holds_of_wide_leaving 4 Tryz.f4 rfl rfl rfl rfl rfl rfl rfl ⟨rfl,rfl,rfl,rfl,rfl⟩ rfl rfl rfl rfl rfl useAgreed_named Tryz.func4 useAgreed_closed
  (of_decide_eq_true (by kernel_rfl)) (by unfold Func.isWrapper; first | (rw [if_pos (by decide +kernel)]; kernel_rfl) | (rw [if_neg (by decide +kernel)]; exact ⟨rfl,rfl⟩))
  (fun os started H enc _ => useAgreed_lifted os started H enc)
theorem useAgreed_holds:Rows.UseAgreedCardSaid :=
 card_goes [.funcs] true Rows.useAgreedCard.stood.harness false useAgreed_row (by kernel_rfl) useAgreed_row_tie rfl ⟨rfl,rfl⟩ (by kernel_rfl) rfl
  (fun f fn hf hfn => by
   obtain rfl:f = 4 := Option.some.inj (useAgreed_named.symm.trans hf) |>.symm
   obtain rfl:fn = Tryz.f4 := (Option.some.inj (Tryz.func4.symm.trans hfn)).symm
   exact ⟨by kernel_rfl,fun j t ht => by
    have hm := Array.mem_of_getElem? ht
    have := of_decide_eq_true (List.all_eq_true.1 (show (Tryz.f4.params.toList.all fun t => decide (Tryz.prog.wantsStandIn t = false)) = true by kernel_rfl) t (Array.mem_toList_iff.2 hm))
    exact this⟩)
  (by kernel_rfl)
end Go.Proofs.YtfkfohpnpljihaaGreatDoor
end
#print axioms Go.Proofs.YtfkfohpnpljihaaGreatDoor.useAgreed_holds
