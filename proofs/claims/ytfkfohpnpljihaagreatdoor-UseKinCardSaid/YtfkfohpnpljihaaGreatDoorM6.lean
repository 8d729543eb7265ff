/- Contracts and laws for the proof, joined by a program. No condition. -/
import Derived.Test.YtfkfohpnpljihaaGreatDoorM5
set_option linter.all false
noncomputable section
open Go.IntKind (wrap)
section
namespace Go.TM
open Go Go.Conc
variable {sy:Sy} {n0:Nat} {w0:World} {C:Nat} {cs:Nat -> Cells} {ng:Nat} {gone:Nat -> Prop} {w:World} {t:Trace}
def withoutC (h:Cells) (c:Nat):Cells := fun r => if r = c then none else h r
open Classical in
def joined (cs:Nat -> Cells) (C:Nat) (D:Nat -> Prop) (cm:Array Value) (e:TypeId):Nat -> Cells :=
 fun i => if i = 0 then (cs 0).upd C (true,.pending cm e) else if D i then withoutC (cs i) C else cs i
theorem joined0 {D:Nat -> Prop} {cm:Array Value} {e:TypeId}:joined cs C D cm e 0 = (cs 0).upd C (true,.pending cm e) := by unfold joined; rw [if_pos rfl]
theorem joinedD {D:Nat -> Prop} {cm:Array Value} {e:TypeId} {i:Nat} (h0:i ≠ 0) (h:D i):joined cs C D cm e i = withoutC (cs i) C := by unfold joined; rw [if_neg h0,if_pos h]
theorem joinedN {D:Nat -> Prop} {cm:Array Value} {e:TypeId} {i:Nat} (h0:i ≠ 0) (h:¬ D i):joined cs C D cm e i = cs i := by unfold joined; rw [if_neg h0,if_neg h]
def ownC (cs:Nat -> Cells) (C i:Nat) (k:Key):Prop := k.1 = C /\ holdsP cs i k = some true
theorem MemW.join (m:MemW sy n0 w0 C cs ng gone w t) {a:Addr} {D:Nat -> Prop} (hD:∀ i,D i -> i ≠ 0 /\ i < ng /\ ∃ p,Done t i a (ownC cs C i) p) (g0:¬ gone 0) (hd:Deaf t 0 = 0)
  {op:MemOp} (hop:op.g = 0 /\ op.act = .mark (.acquire a)) {c cm:Array Value} {e:TypeId} (hC:cs 0 C = some (true,.pending c e)) (hs:cm.size = c.size)
  (hm:∀ (i:Nat) (v:Value),cm[i]? = some v -> notHole v = true -> c[i]? = some v \/ ∃ j b cj ej,D j /\ cs j C = some (b,.pending cj ej) /\ cj[i]? = some v) {gone':Nat -> Prop} (hg:∀ g,gone' g ↔ gone g \/ D g) :
  MemW sy n0 w0 C (joined cs C D cm e) ng gone' w (t ++ #[op]) := by
 have at0:∀ (k:Key) b,holdsP (joined cs C D cm e) 0 k = some b -> (k.1 ≠ C /\ holdsP cs 0 k = some b) \/ (b = true /\ holdsP cs 0 k = some true) \/ (b = true /\ ∃ j,D j /\ ownC cs C j k) := by
  rintro ⟨r,q⟩ b hb;obtain ⟨z,hz,hn,hb'⟩ := holdsP_inv hb;rw [joined0] at hz;by_cases er:r = C
  ·subst er;simp only [Cells.upd_self,Option.some.injEq] at hz; subst hz;cases q with
   | none => exact absurd ⟨_,hole_end cm e⟩ hn
   | some i =>
    obtain ⟨v,hv,hvn⟩ := not_hole_val (e := e) hn;rcases hm i v hv hvn with h1 | ⟨j,b1,cj,ej,hj,h1,h2⟩
    ·exact .inr (.inl ⟨hb'.symm,holdsP_of (q := some i) hC (val_not_hole (e := e) h1 hvn)⟩)
    ·cases (m.part j _ _ h1).1;exact .inr (.inr ⟨hb'.symm,j,hj,rfl,holdsP_of (q := some i) h1 (val_not_hole (e := ej) h2 hvn)⟩)
  ·simp only [Cells.upd_ne _ _ er] at hz;exact .inl ⟨er,by rw [holdsP_of hz hn,hb']⟩
 have atI:∀ i,i ≠ 0 -> ∀ (k:Key) b,holdsP (joined cs C D cm e) i k = some b -> holdsP cs i k = some b /\ (D i -> k.1 ≠ C) := by
  rintro i hi ⟨r,q⟩ b hb;obtain ⟨z,hz,hn,hb'⟩ := holdsP_inv hb;by_cases hDi:D i
  ·rw [joinedD hi hDi] at hz;unfold withoutC at hz;split at hz
   ·cases hz
   ·rename_i er; exact ⟨by rw [holdsP_of hz hn,hb'],fun _ => er⟩
  ·rw [joinedN hi hDi] at hz;exact ⟨by rw [holdsP_of hz hn,hb'],fun h => absurd h hDi⟩
 refine ⟨?_,?_,?_,?_,?_,m.cl,?_,m.pos,m.base,?_,m.size,m.os,m.tape,m.output⟩
 ·intro i r b o hr;by_cases e0:i = 0
  ·subst e0;rw [joined0] at hr;by_cases er:r = C
   ·subst er;rw [Cells.upd_self] at hr; cases hr;obtain ⟨o1,h1,c',rfl,h2,h3⟩ := m.fits 0 r _ _ hC;refine ⟨_,h1,c',rfl,h2.trans hs.symm,fun i v hv hn => ?_⟩;rcases hm i v hv hn with h4 | ⟨j,b1,cj,ej,hj,h4,h5⟩
    ·exact h3 i v h4 hn
    ·obtain ⟨o2,h6,c2,h7,_,h8⟩ := m.fits j r _ _ h4;rw [h1] at h6; cases h6; cases h7;exact h8 i v h5 hn
   ·rw [Cells.upd_ne _ _ er] at hr; exact m.fits 0 r b o hr
  ·by_cases hDi:D i
   ·rw [joinedD e0 hDi] at hr;unfold withoutC at hr;split at hr
    ·cases hr
    ·exact m.fits i r b o hr
   ·rw [joinedN e0 hDi] at hr; exact m.fits i r b o hr
 ·intro i b o hr;by_cases e0:i = 0
  ·subst e0; rw [joined0,Cells.upd_self] at hr; cases hr; exact ⟨rfl,_,_,rfl⟩
  ·by_cases hDi:D i
   ·rw [joinedD e0 hDi] at hr; unfold withoutC at hr; rw [if_pos rfl] at hr; cases hr
   ·rw [joinedN e0 hDi] at hr; exact m.part i b o hr
 ·intro i r b o er hr;by_cases e0:i = 0
  ·subst e0; rw [joined0,Cells.upd_ne _ _ er] at hr; exact m.whole 0 r b o er hr
  ·by_cases hDi:D i
   ·rw [joinedD e0 hDi] at hr; unfold withoutC at hr; rw [if_neg er] at hr; exact m.whole i r b o er hr
   ·rw [joinedN e0 hDi] at hr; exact m.whole i r b o er hr
 ·refine m.ti.join (a := a) (ks := fun i => ownC cs C i) (D := D) (fun i hi => (hD i hi).2) g0 hd m.pos hop (fun g h => (hg g).2 (.inl h)) (fun g h => (hg g).1 h) ?_ ?_
  ·intro g k b hb;by_cases e0:g = 0
   ·subst e0;rcases at0 k b hb with ⟨_,h1⟩ | ⟨rfl,h1⟩ | ⟨rfl,j,hj,h1⟩
    ·exact .inl h1
    ·exact .inl h1
    ·exact .inr ⟨rfl,j,hj,h1,h1.2⟩
   ·exact .inl (atI g e0 k b hb).1
  ·rintro i hi k ⟨hk,h1⟩ g hg0;cases hx:holdsP (joined cs C D cm e) g k with
   | none => rfl
   | some b =>
    obtain ⟨h2,h3⟩ := atI g hg0 k b hx;by_cases ei:g = i
    ·subst ei; exact absurd hk (h3 hi)
    ·rw [m.ti.excl i g k (Ne.symm ei) h1] at h2; cases h2
 ·intro r hr i;have hn := m.off r hr;have er:r ≠ C := by rintro rfl; rw [hn 0] at hC; cases hC
  by_cases e0:i = 0
  ·subst e0; rw [joined0,Cells.upd_ne _ _ er]; exact hn 0
  ·by_cases hDi:D i
   ·rw [joinedD e0 hDi]; unfold withoutC; rw [if_neg er]; exact hn i
   ·rw [joinedN e0 hDi]; exact hn i
 ·intro i hi r;have e0:i ≠ 0 := fun e => by subst e; exact absurd m.pos (Nat.not_lt.2 hi)
  by_cases hDi:D i
  ·exact absurd (hD i hDi).2.1 (Nat.not_lt.2 hi)
  ·rw [joinedN e0 hDi]; exact m.out i hi r
 ·intro i r o hr;by_cases e0:i = 0
  ·subst e0;rw [joined0] at hr;by_cases er:r = C
   ·subst er; exact m.low 0 r _ hC
   ·rw [Cells.upd_ne _ _ er] at hr; exact m.low 0 r o hr
  ·by_cases hDi:D i
   ·rw [joinedD e0 hDi] at hr;unfold withoutC at hr;split at hr
    ·cases hr
    ·exact m.low i r o hr
   ·rw [joinedN e0 hDi] at hr; exact m.low i r o hr
end Go.TM
end
section
namespace Go.TM.WgW
open Go Go.Conc Go.ConcN Go.RowKit Go.Conc.Lib Go.ConcR.Gen Go.ConcN.Gen
open Go.ConcR (KK wgBlock WgAt stA smA rd wr mk DC0)
variable {L:WgLink}
def RM (ty:TypeId) (Wg:Nat) (w w₁:World):Prop := WgLive ty Wg w -> WgLive ty Wg w₁
theorem rm {ty:TypeId} {Wg:Nat} {w w₁:World} (h:WgLive ty Wg w) (r:RM ty Wg w w₁):WgLive ty Wg w₁ := r h
abbrev Idle (P:Program) (ty:TypeId) (Wg:Nat) (Stop:Goroutine -> World -> Prop) (g:Goroutine) (w:World):Prop := ∃ m,Goes P true (RM ty Wg) DC0 Stop m g w
def AtMark (P:Program) (m:Mark) (Next:Goroutine -> World -> Prop) (g:Goroutine) (w:World):Prop :=
 g.status = .running /\ ∃ g',stepG P true g w = .go g' w #[mk m] /\ Next g' w
def RetOf (f:FuncId) (cs:List Frame) (g:Goroutine):Prop := ∃ fr,g = G fr cs /\ fr.fn = f /\ fr.mode = .returning /\ fr.defers = [] /\ fr.kind = .normal
def AtAdd1 (P:Program) (ty:TypeId) (Wg:Nat) (Next:Nat -> Goroutine -> World -> Prop) (g:Goroutine) (w:World):Prop :=
 g.status = .running /\ ∀ v:Nat,v < 2147483647 -> WgAt ty Wg w (v * KK) 0 ->
  ∃ g',stepG P true g w = .go g' (w.setCell (stA Wg) (.int .u64 ((v + 1) * KK))) #[rd (stA Wg),wr (stA Wg)] /\ Next (v + 1) g' (w.setCell (stA Wg) (.int .u64 ((v + 1) * KK)))
def AtEn (P:Program) (ty:TypeId) (Wg:Nat) (cs:List Frame) (f:FuncId):Goroutine -> World -> Prop := AtMark P .enable (Idle P ty Wg fun g _ => RetOf f cs g)
def AtLd (P:Program) (ty:TypeId) (Wg:Nat) (Next:Nat -> Goroutine -> World -> Prop) (g:Goroutine) (w:World):Prop :=
 g.status = .running /\ ∀ v:Nat,v < 2147483648 -> WgAt ty Wg w (v * KK) 0 -> ∃ g',stepG P true g w = .go g' w #[rd (stA Wg)] /\ Next v g' w
def AtCas (P:Program) (ty:TypeId) (Wg vs:Nat) (Hit Miss:Goroutine -> World -> Prop) (g:Goroutine) (w:World):Prop :=
 g.status = .running /\ ∀ v:Nat,v < 2147483648 -> WgAt ty Wg w (v * KK) 0 ->
  (v = vs -> ∃ g',stepG P true g w = .go g' (w.setCell (stA Wg) (.int .u64 (v * KK + 1))) #[rd (stA Wg),wr (stA Wg)] /\ Hit g' (w.setCell (stA Wg) (.int .u64 (v * KK + 1)))) /\
  (v ≠ vs -> ∃ g',stepG P true g w = .go g' w #[rd (stA Wg)] /\ Miss g' w)
def AtSem (P:Program) (ty:TypeId) (Wg:Nat) (Next:Goroutine -> World -> Prop) (g:Goroutine) (w:World):Prop :=
 g.status = .running /\ g.offers = none /\ ((∃ st,WgAt ty Wg w st 0) -> stepG P true g w = .go { g with status := .blocked } w #[]) /\
  (WgAt ty Wg w 0 1 -> ∃ g',stepG P true g w = .go g' (w.setCell (smA Wg) (.int .u32 0)) (semEvents (smA Wg)) /\ Next g' (w.setCell (smA Wg) (.int .u32 0)))
def AtLd0 (P:Program) (ty:TypeId) (Wg:Nat) (Next:Goroutine -> World -> Prop) (g:Goroutine) (w:World):Prop :=
 g.status = .running /\ (WgAt ty Wg w 0 0 -> ∃ g',stepG P true g w = .go g' w #[rd (stA Wg)] /\ Next g' w)
def AtJoin (P:Program) (ty:TypeId) (Wg:Nat) (cs:List Frame) (f:FuncId):Goroutine -> World -> Prop :=
 AtMark P .enable (Idle P ty Wg (AtMark P (.acquire (stA Wg)) (Idle P ty Wg fun g _ => RetOf f cs g)))
def AtReg (P:Program) (ty:TypeId) (Wg:Nat) (cs:List Frame) (f:FuncId):Goroutine -> World -> Prop :=
 Idle P ty Wg (AtMark P (.write (smA Wg)) (Idle P ty Wg (AtSem P ty Wg (Idle P ty Wg (AtLd0 P ty Wg (Idle P ty Wg (AtJoin P ty Wg cs f)))))))
def Anch (L:WgLink) (Wg:Nat) (cs:List Frame) (g:Goroutine):Prop :=
 ∃ T:Array Value,g = G ((base L.wait).at ⟨T,[]⟩ [.code (L7 L),.inLoop (L7 L),.inBlock 0]) cs /\ T.size = 84 /\ T[0]? = some (.pointer (some ⟨Wg,0,none⟩))
end Go.TM.WgW
end
namespace Go.TM
section
open Go Go.Conc
open Go.ConcR (KK wgBlock WgAt stA smA rd wr mk)
def W0 (ty:TypeId) (Wg:Nat) (w:World):Prop := ∃ st,WgAt ty Wg w st 0
inductive Life (P:Program) (ty:TypeId) (Wg:Nat):Nat -> Nat -> Goroutine -> Prop
 | idle {s d:Nat} {g:Goroutine} (nx:World -> Goroutine):2 <= s -> s <= 7 -> g.status = .running -> (∀ w,W0 ty Wg w -> stepG P false g w = .go (nx w) w #[]) -> (∀ w,W0 ty Wg w -> Life P ty Wg s d (nx w)) -> Life P ty Wg s d g
 | rel {g:Goroutine} (nx:World -> Goroutine):g.status = .running -> (∀ w,W0 ty Wg w -> stepG P false g w = .go (nx w) w #[mk (.releaseMerge (stA Wg))]) -> (∀ w,W0 ty Wg w -> Life P ty Wg 6 0 (nx w)) -> Life P ty Wg 7 0 g
 | dis {g:Goroutine} (nx:World -> Goroutine):g.status = .running -> (∀ w,W0 ty Wg w -> stepG P false g w = .go (nx w) w #[mk .disable]) -> (∀ w,W0 ty Wg w -> Life P ty Wg 5 1 (nx w)) -> Life P ty Wg 6 0 g
 | add {g:Goroutine} (nx:Nat -> Nat -> World -> Goroutine):g.status = .running ->
   (∀ (v wt:Nat) (w:World),wt <= 1 -> v < 2147483647 -> WgAt ty Wg w (((v:Int) + 1) * KK + (wt:Int)) 0 -> stepG P false g w = .go (nx v wt w) (w.setCell (stA Wg) (.int .u64 ((v:Int) * KK + (wt:Int)))) #[rd (stA Wg),wr (stA Wg)]) ->
   (∀ (v wt:Nat) (w:World),wt <= 1 -> v < 2147483647 -> WgAt ty Wg w (((v:Int) + 1) * KK + (wt:Int)) 0 -> v = 0 /\ wt = 1 -> Life P ty Wg 4 1 (nx v wt w)) ->
   (∀ (v wt:Nat) (w:World),wt <= 1 -> v < 2147483647 -> WgAt ty Wg w (((v:Int) + 1) * KK + (wt:Int)) 0 -> ¬ (v = 0 /\ wt = 1) -> Life P ty Wg 1 1 (nx v wt w)) -> Life P ty Wg 5 1 g
 | load {g:Goroutine} (nx:World -> Goroutine):g.status = .running -> (∀ w,WgAt ty Wg w 1 0 -> stepG P false g w = .go (nx w) w #[rd (stA Wg)]) -> (∀ w,WgAt ty Wg w 1 0 -> Life P ty Wg 3 1 (nx w)) -> Life P ty Wg 4 1 g
 | store {g:Goroutine} (nx:World -> Goroutine):g.status = .running -> (∀ w,WgAt ty Wg w 1 0 -> stepG P false g w = .go (nx w) (w.setCell (stA Wg) (.int .u64 0)) #[wr (stA Wg)]) -> (∀ w,WgAt ty Wg w 1 0 -> Life P ty Wg 2 1 (nx w)) -> Life P ty Wg 3 1 g
 | sem {g:Goroutine} (nx:World -> Goroutine):g.status = .running -> mayWake P g = true -> (∀ w,WgAt ty Wg w 0 0 -> stepG P false g w = .go (nx w) (w.setCell (smA Wg) (.int .u32 1)) (semEvents (smA Wg))) -> (∀ w,WgAt ty Wg w 0 0 -> Life P ty Wg 1 1 (nx w)) -> Life P ty Wg 2 1 g
 | quit {n d:Nat} {g:Goroutine}:QuitsD P n d g -> Life P ty Wg 1 d g
variable {P:Program} {ty:TypeId} {Wg C:Nat}
theorem Life.status {s d:Nat} {g:Goroutine} (l:Life P ty Wg s d g):g.status = .running \/ g.status = .finished := by
 cases l with
 | quit h => exact h.status
 | _ => left; assumption
open Classical in
theorem Life.idle' {s d:Nat} {g:Goroutine} (h1:2 <= s) (h2:s <= 7) (hr:g.status = .running) (h:∀ w,W0 ty Wg w -> ∃ g',stepG P false g w = .go g' w #[] /\ Life P ty Wg s d g'):Life P ty Wg s d g :=
 .idle (fun w => if hw:W0 ty Wg w then (h w hw).choose else g) h1 h2 hr (fun w hw => by rw [dif_pos hw]; exact (h w hw).choose_spec.1) (fun w hw => by rw [dif_pos hw]; exact (h w hw).choose_spec.2)
open Classical in
theorem Life.rel' {g:Goroutine} (hr:g.status = .running) (h:∀ w,W0 ty Wg w -> ∃ g',stepG P false g w = .go g' w #[mk (.releaseMerge (stA Wg))] /\ Life P ty Wg 6 0 g'):Life P ty Wg 7 0 g :=
 .rel (fun w => if hw:W0 ty Wg w then (h w hw).choose else g) hr (fun w hw => by rw [dif_pos hw]; exact (h w hw).choose_spec.1) (fun w hw => by rw [dif_pos hw]; exact (h w hw).choose_spec.2)
open Classical in
theorem Life.dis' {g:Goroutine} (hr:g.status = .running) (h:∀ w,W0 ty Wg w -> ∃ g',stepG P false g w = .go g' w #[mk .disable] /\ Life P ty Wg 5 1 g'):Life P ty Wg 6 0 g :=
 .dis (fun w => if hw:W0 ty Wg w then (h w hw).choose else g) hr (fun w hw => by rw [dif_pos hw]; exact (h w hw).choose_spec.1) (fun w hw => by rw [dif_pos hw]; exact (h w hw).choose_spec.2)
open Classical in
theorem Life.add' {g:Goroutine} (hr:g.status = .running) (h:∀ (v wt:Nat) (w:World),wt <= 1 -> v < 2147483647 -> WgAt ty Wg w (((v:Int) + 1) * KK + (wt:Int)) 0 ->
  ∃ g',stepG P false g w = .go g' (w.setCell (stA Wg) (.int .u64 ((v:Int) * KK + (wt:Int)))) #[rd (stA Wg),wr (stA Wg)] /\ (v = 0 /\ wt = 1 -> Life P ty Wg 4 1 g') /\ (¬ (v = 0 /\ wt = 1) -> Life P ty Wg 1 1 g')):Life P ty Wg 5 1 g := by
 let nx:Nat -> Nat -> World -> Goroutine := fun v wt w => if hw:wt <= 1 /\ v < 2147483647 /\ WgAt ty Wg w (((v:Int) + 1) * KK + (wt:Int)) 0 then (h v wt w hw.1 hw.2.1 hw.2.2).choose else g
 have hx:∀ (v wt:Nat) (w:World) (a:wt <= 1) (b:v < 2147483647) (c:WgAt ty Wg w (((v:Int) + 1) * KK + (wt:Int)) 0),nx v wt w = (h v wt w a b c).choose := fun v wt w a b c => dif_pos ⟨a,b,c⟩;exact .add nx hr (fun v wt w a b c => by rw [hx v wt w a b c]; exact (h v wt w a b c).choose_spec.1) (fun v wt w a b c => by rw [hx v wt w a b c]; exact (h v wt w a b c).choose_spec.2.1) (fun v wt w a b c => by rw [hx v wt w a b c]; exact (h v wt w a b c).choose_spec.2.2)
open Classical in
theorem Life.load' {g:Goroutine} (hr:g.status = .running) (h:∀ w,WgAt ty Wg w 1 0 -> ∃ g',stepG P false g w = .go g' w #[rd (stA Wg)] /\ Life P ty Wg 3 1 g'):Life P ty Wg 4 1 g :=
 .load (fun w => if hw:WgAt ty Wg w 1 0 then (h w hw).choose else g) hr (fun w hw => by rw [dif_pos hw]; exact (h w hw).choose_spec.1) (fun w hw => by rw [dif_pos hw]; exact (h w hw).choose_spec.2)
open Classical in
theorem Life.store' {g:Goroutine} (hr:g.status = .running) (h:∀ w,WgAt ty Wg w 1 0 -> ∃ g',stepG P false g w = .go g' (w.setCell (stA Wg) (.int .u64 0)) #[wr (stA Wg)] /\ Life P ty Wg 2 1 g'):Life P ty Wg 3 1 g :=
 .store (fun w => if hw:WgAt ty Wg w 1 0 then (h w hw).choose else g) hr (fun w hw => by rw [dif_pos hw]; exact (h w hw).choose_spec.1) (fun w hw => by rw [dif_pos hw]; exact (h w hw).choose_spec.2)
open Classical in
theorem Life.sem' {g:Goroutine} (hr:g.status = .running) (hm:mayWake P g = true) (h:∀ w,WgAt ty Wg w 0 0 -> ∃ g',stepG P false g w = .go g' (w.setCell (smA Wg) (.int .u32 1)) (semEvents (smA Wg)) /\ Life P ty Wg 1 1 g'):Life P ty Wg 2 1 g :=
 .sem (fun w => if hw:WgAt ty Wg w 0 0 then (h w hw).choose else g) hr hm (fun w hw => by rw [dif_pos hw]; exact (h w hw).choose_spec.1) (fun w hw => by rw [dif_pos hw]; exact (h w hw).choose_spec.2)
def stg (h:LH):Nat := match h.todo with
 | [] => 0
 | _ :: _ => h.pend.length
def LH.to (h:LH) (s d:Nat):LH := { h with chans := List.replicate d 0,pend := List.replicate s [] }
theorem LH.dp_to (h:LH) (s d:Nat):(h.to s d).dp = d := by simp [LH.to,LH.dp]
theorem LH.len_to (h:LH) (s d:Nat):(h.to s d).pend.length = s := by simp [LH.to]
def noCells:Cells := fun _ => none
structure Kept (C:Nat) (h:LH):Prop where
 kept:∃ (j:Nat) (φ:Value -> Cells -> Prop) (c:Array Value) (e:TypeId) (v:Value),h.todo = [(j,φ)] /\ h.get C = some (true,.pending c e) /\ c[j]? = some v /\ notHole v = true /\ φ v noCells
theorem Kept.ne {h:LH} (k:Kept C h):h.todo ≠ [] := by
 obtain ⟨j,φ,c,e,v,h1,_⟩ := k.kept;rw [h1]; simp
theorem Kept.to {h:LH} (k:Kept C h) (s d:Nat):Kept C (h.to s d) := ⟨k.kept⟩
theorem stg_ne {h:LH} (k:h.todo ≠ []):stg h = h.pend.length := by
 unfold stg;cases e:h.todo with
 | nil => exact absurd e k
 | cons _ _ => rfl
inductive WkG (P:Program) (ty:TypeId) (Wg C:Nat):Goroutine -> LH -> Prop
 | work {fr:Frame} {cs:List Frame} {h:LH} {N:Goroutine -> LH -> Prop}:LStep P false (G fr cs) h N -> (∀ g' h',N g' h' -> WkG P ty Wg C g' h') -> WkG P ty Wg C (G fr cs) h
 | done {g:Goroutine} {h:LH}:Kept C h -> Life P ty Wg 7 0 g -> WkG P ty Wg C g h
inductive WSt (P:Program) (ty:TypeId) (Wg C:Nat):Goroutine -> LH -> Prop
 | old {n:Nat} {g:Goroutine} {h:LH}:h.todo = [] -> QuitsD P n h.dp g -> WSt P ty Wg C g h
 | work {g:Goroutine} {h:LH}:h.todo ≠ [] -> h.pend.length = 7 -> h.chans = [] -> WkG P ty Wg C g h -> WSt P ty Wg C g h
 | lib {g:Goroutine} {h:LH}:Kept C h -> 1 <= h.pend.length -> h.pend.length <= 7 -> Life P ty Wg h.pend.length h.dp g -> WSt P ty Wg C g h
theorem WkG.status {g:Goroutine} {h:LH} (a:WkG P ty Wg C g h):g.status = .running \/ g.status = .finished := by
 cases a with
 | work _ _ => exact .inl rfl
 | done _ l => exact l.status
theorem WSt.status {g:Goroutine} {h:LH} (a:WSt P ty Wg C g h):g.status = .running \/ g.status = .finished := by
 cases a with
 | old _ hq => exact hq.status
 | work _ _ _ hw => exact hw.status
 | lib _ _ _ l => exact l.status
theorem WSt.libTo {g:Goroutine} {h:LH} {s d:Nat} (k:Kept C h) (h1:1 <= s) (h2:s <= 7) (l:Life P ty Wg s d g):WSt P ty Wg C g (h.to s d) :=
 .lib (k.to s d) (by rw [LH.len_to]; exact h1) (by rw [LH.len_to]; exact h2) (by rw [LH.len_to,LH.dp_to]; exact l)
inductive LibMove (P:Program) (ty:TypeId) (Wg:Nat) (K:Goroutine -> LH -> Prop):Nat -> Nat -> Goroutine -> LH -> Prop
 | idle {s d:Nat} {g:Goroutine} {h:LH} (nx:World -> Goroutine):2 <= s -> s <= 7 -> (∀ w,W0 ty Wg w -> stepG P false g w = .go (nx w) w #[]) -> (∀ w,W0 ty Wg w -> Life P ty Wg s d (nx w) /\ K (nx w) h) -> LibMove P ty Wg K s d g h
 | rel {g:Goroutine} {h:LH} (nx:World -> Goroutine):(∀ w,W0 ty Wg w -> stepG P false g w = .go (nx w) w #[mk (.releaseMerge (stA Wg))]) -> (∀ w,W0 ty Wg w -> Life P ty Wg 6 0 (nx w) /\ K (nx w) (h.to 6 0)) -> LibMove P ty Wg K 7 0 g h
 | dis {g:Goroutine} {h:LH} (nx:World -> Goroutine):(∀ w,W0 ty Wg w -> stepG P false g w = .go (nx w) w #[mk .disable]) -> (∀ w,W0 ty Wg w -> Life P ty Wg 5 1 (nx w) /\ K (nx w) (h.to 5 1)) -> LibMove P ty Wg K 6 0 g h
 | add {g:Goroutine} {h:LH} (nx:Nat -> Nat -> World -> Goroutine) :
   (∀ (v wt:Nat) (w:World),wt <= 1 -> v < 2147483647 -> WgAt ty Wg w (((v:Int) + 1) * KK + (wt:Int)) 0 -> stepG P false g w = .go (nx v wt w) (w.setCell (stA Wg) (.int .u64 ((v:Int) * KK + (wt:Int)))) #[rd (stA Wg),wr (stA Wg)]) ->
   (∀ (v wt:Nat) (w:World),wt <= 1 -> v < 2147483647 -> WgAt ty Wg w (((v:Int) + 1) * KK + (wt:Int)) 0 -> v = 0 /\ wt = 1 -> Life P ty Wg 4 1 (nx v wt w) /\ K (nx v wt w) (h.to 4 1)) ->
   (∀ (v wt:Nat) (w:World),wt <= 1 -> v < 2147483647 -> WgAt ty Wg w (((v:Int) + 1) * KK + (wt:Int)) 0 -> ¬ (v = 0 /\ wt = 1) -> Life P ty Wg 1 1 (nx v wt w) /\ K (nx v wt w) (h.to 1 1)) -> LibMove P ty Wg K 5 1 g h
 | load {g:Goroutine} {h:LH} (nx:World -> Goroutine):(∀ w,WgAt ty Wg w 1 0 -> stepG P false g w = .go (nx w) w #[rd (stA Wg)]) -> (∀ w,WgAt ty Wg w 1 0 -> Life P ty Wg 3 1 (nx w) /\ K (nx w) (h.to 3 1)) -> LibMove P ty Wg K 4 1 g h
 | store {g:Goroutine} {h:LH} (nx:World -> Goroutine):(∀ w,WgAt ty Wg w 1 0 -> stepG P false g w = .go (nx w) (w.setCell (stA Wg) (.int .u64 0)) #[wr (stA Wg)]) -> (∀ w,WgAt ty Wg w 1 0 -> Life P ty Wg 2 1 (nx w) /\ K (nx w) (h.to 2 1)) -> LibMove P ty Wg K 3 1 g h
 | sem {g:Goroutine} {h:LH} (nx:World -> Goroutine):mayWake P g = true -> (∀ w,WgAt ty Wg w 0 0 -> stepG P false g w = .go (nx w) (w.setCell (smA Wg) (.int .u32 1)) (semEvents (smA Wg))) -> (∀ w,WgAt ty Wg w 0 0 -> Life P ty Wg 1 1 (nx w) /\ K (nx w) (h.to 1 1)) -> LibMove P ty Wg K 2 1 g h
 | quit {n d:Nat} {g g':Goroutine} {h:LH} {es:Array Event}:(∀ e ∈ es,Event.mute e = true) -> (∀ w,stepG P false g w = .go g' w es) -> QuitsD P n (deafBehind d es) g' -> K g' (h.to 1 (deafBehind d es)) -> LibMove P ty Wg K 1 d g h
def MovesW (P:Program) (ty:TypeId) (Wg C:Nat) (g:Goroutine) (h:LH) (K:Goroutine -> LH -> Prop):Prop :=
  g.status = .finished \/ (g.status = .running /\
    ((h.todo = [] /\ ∃ n g' es,(∀ e ∈ es,Event.mute e = true) /\ (∀ w,stepG P false g w = .go g' w es) /\ QuitsD P n (deafBehind h.dp es) g' /\ K g' (h.deaf (deafBehind h.dp es))) \/
     (h.todo ≠ [] /\ h.pend.length = 7 /\ h.chans = [] /\ ∃ fr cs N,g = G fr cs /\ LStep P false (G fr cs) h N /\ ∀ g' h',N g' h' -> (h'.todo = h.todo /\ h'.pend = h.pend /\ h'.chans = h.chans) /\ WkG P ty Wg C g' h' /\ K g' h') \/
     (Kept C h /\ 1 <= h.pend.length /\ h.pend.length <= 7 /\ LibMove P ty Wg K h.pend.length h.dp g h)))
inductive Run1W (P:Program) (ty:TypeId) (Wg C:Nat):Goroutine -> LH -> Prop
 | mk (g:Goroutine) (h:LH) (K:Goroutine -> LH -> Prop):MovesW P ty Wg C g h K -> (∀ g' h',K g' h' -> Run1W P ty Wg C g' h') -> Run1W P ty Wg C g h
theorem run1W_old:∀ (n:Nat) (g:Goroutine) (h:LH),h.todo = [] -> QuitsD P n h.dp g -> Run1W P ty Wg C g h := by
 intro n
 induction n with
 | zero => intro g h h0 hq; exact .mk g h (fun _ _ => False) (.inl hq.1) fun _ _ hk => hk.elim
 | succ n ih =>
  intro g h h0 hq;rcases hq with hq | ⟨hr,g',es,hm,hw,hq'⟩
  ·exact .mk g h (fun _ _ => False) (.inl hq.1) fun _ _ hk => hk.elim
  ·refine .mk g h (fun a b => a = g' /\ b = h.deaf (deafBehind h.dp es)) (.inr ⟨hr,.inl ⟨h0,n,g',es,hm,hw,hq',rfl,rfl⟩⟩) ?_;rintro a b ⟨e1,e2⟩;rw [e1,e2]; exact ih g' _ h0 (by rw [LH.dp_deaf]; exact hq')
theorem run1W_quit:∀ (n:Nat) (g:Goroutine) (h:LH),Kept C h -> h.pend.length = 1 -> QuitsD P n h.dp g -> Run1W P ty Wg C g h := by
 intro n
 induction n with
 | zero => intro g h _ _ hq; exact .mk g h (fun _ _ => False) (.inl hq.1) fun _ _ hk => hk.elim
 | succ n ih =>
  intro g h hk h1 hq;rcases hq with hq | ⟨hr,g',es,hm,hw,hq'⟩
  ·exact .mk g h (fun _ _ => False) (.inl hq.1) fun _ _ hk => hk.elim
  ·refine .mk g h (fun a b => a = g' /\ b = h.to 1 (deafBehind h.dp es)) (.inr ⟨hr,.inr (.inr ⟨hk,by omega,by omega,?_⟩)⟩) ?_
   ·rw [h1]; exact .quit hm hw hq' ⟨rfl,rfl⟩
   ·rintro a b ⟨e1,e2⟩;rw [e1,e2]; exact ih g' _ (hk.to _ _) (LH.len_to _ _ _) (by rw [LH.dp_to]; exact hq')
theorem run1W_life {s d:Nat} {g:Goroutine} (l:Life P ty Wg s d g):∀ h:LH,Kept C h -> h.pend.length = s -> h.dp = d -> Run1W P ty Wg C g h := by
 induction l with
 | @idle s d g nx h1 h2 hr hs hl ih =>
  intro h hk hs' hd;refine .mk g h (fun a b => (∃ w,W0 ty Wg w /\ a = nx w) /\ b = h) (.inr ⟨hr,.inr (.inr ⟨hk,by omega,by omega,?_⟩)⟩) ?_
  ·rw [hs',hd]; exact .idle nx h1 h2 hs fun w hw => ⟨hl w hw,⟨w,hw,rfl⟩,rfl⟩
  ·rintro a b ⟨⟨w,hw,rfl⟩,rfl⟩; exact ih w hw b hk hs' hd
 | @rel g nx hr hs hl ih =>
  intro h hk hs' hd;refine .mk g h (fun a b => (∃ w,W0 ty Wg w /\ a = nx w) /\ b = h.to 6 0) (.inr ⟨hr,.inr (.inr ⟨hk,by omega,by omega,?_⟩)⟩) ?_
  ·rw [hs',hd]; exact .rel nx hs fun w hw => ⟨hl w hw,⟨w,hw,rfl⟩,rfl⟩
  ·rintro a b ⟨⟨w,hw,rfl⟩,rfl⟩; exact ih w hw _ (hk.to _ _) (LH.len_to _ _ _) (LH.dp_to _ _ _)
 | @dis g nx hr hs hl ih =>
  intro h hk hs' hd;refine .mk g h (fun a b => (∃ w,W0 ty Wg w /\ a = nx w) /\ b = h.to 5 1) (.inr ⟨hr,.inr (.inr ⟨hk,by omega,by omega,?_⟩)⟩) ?_
  ·rw [hs',hd]; exact .dis nx hs fun w hw => ⟨hl w hw,⟨w,hw,rfl⟩,rfl⟩
  ·rintro a b ⟨⟨w,hw,rfl⟩,rfl⟩; exact ih w hw _ (hk.to _ _) (LH.len_to _ _ _) (LH.dp_to _ _ _)
 | @add g nx hr hs hl1 hl2 ih1 ih2 =>
  intro h hk hs' hd;refine .mk g h (fun a b => (∃ (v wt:Nat) (w:World),wt <= 1 /\ v < 2147483647 /\ WgAt ty Wg w (((v:Int) + 1) * KK + (wt:Int)) 0 /\ a = nx v wt w /\ ((v = 0 /\ wt = 1) /\ b = h.to 4 1 \/ (¬ (v = 0 /\ wt = 1)) /\ b = h.to 1 1))) (.inr ⟨hr,.inr (.inr ⟨hk,by omega,by omega,?_⟩)⟩) ?_
  ·rw [hs',hd];exact .add nx hs (fun v wt w a b c e => ⟨hl1 v wt w a b c e,v,wt,w,a,b,c,rfl,.inl ⟨e,rfl⟩⟩) (fun v wt w a b c e => ⟨hl2 v wt w a b c e,v,wt,w,a,b,c,rfl,.inr ⟨e,rfl⟩⟩)
  ·rintro a b ⟨v,wt,w,x,y,z,rfl,⟨e,rfl⟩ | ⟨e,rfl⟩⟩
   ·exact ih1 v wt w x y z e _ (hk.to _ _) (LH.len_to _ _ _) (LH.dp_to _ _ _)
   ·exact ih2 v wt w x y z e _ (hk.to _ _) (LH.len_to _ _ _) (LH.dp_to _ _ _)
 | @load g nx hr hs hl ih =>
  intro h hk hs' hd;refine .mk g h (fun a b => (∃ w,WgAt ty Wg w 1 0 /\ a = nx w) /\ b = h.to 3 1) (.inr ⟨hr,.inr (.inr ⟨hk,by omega,by omega,?_⟩)⟩) ?_
  ·rw [hs',hd]; exact .load nx hs fun w hw => ⟨hl w hw,⟨w,hw,rfl⟩,rfl⟩
  ·rintro a b ⟨⟨w,hw,rfl⟩,rfl⟩; exact ih w hw _ (hk.to _ _) (LH.len_to _ _ _) (LH.dp_to _ _ _)
 | @store g nx hr hs hl ih =>
  intro h hk hs' hd;refine .mk g h (fun a b => (∃ w,WgAt ty Wg w 1 0 /\ a = nx w) /\ b = h.to 2 1) (.inr ⟨hr,.inr (.inr ⟨hk,by omega,by omega,?_⟩)⟩) ?_
  ·rw [hs',hd]; exact .store nx hs fun w hw => ⟨hl w hw,⟨w,hw,rfl⟩,rfl⟩
  ·rintro a b ⟨⟨w,hw,rfl⟩,rfl⟩; exact ih w hw _ (hk.to _ _) (LH.len_to _ _ _) (LH.dp_to _ _ _)
 | @sem g nx hr hm hs hl ih =>
  intro h hk hs' hd;refine .mk g h (fun a b => (∃ w,WgAt ty Wg w 0 0 /\ a = nx w) /\ b = h.to 1 1) (.inr ⟨hr,.inr (.inr ⟨hk,by omega,by omega,?_⟩)⟩) ?_
  ·rw [hs',hd]; exact .sem nx hm hs fun w hw => ⟨hl w hw,⟨w,hw,rfl⟩,rfl⟩
  ·rintro a b ⟨⟨w,hw,rfl⟩,rfl⟩; exact ih w hw _ (hk.to _ _) (LH.len_to _ _ _) (LH.dp_to _ _ _)
 | quit hq =>
  intro h hk hs' hd;exact run1W_quit _ _ _ hk hs' (by rw [hd]; exact hq)
theorem run1W_wk {g:Goroutine} {h:LH} (a:WkG P ty Wg C g h):h.todo ≠ [] -> h.pend.length = 7 -> h.chans = [] -> Run1W P ty Wg C g h := by
 induction a with
 | @work fr cs h N hs hN ih =>
  intro h1 h2 h3;refine .mk _ h (fun g' h' => N g' h' /\ h'.todo = h.todo /\ h'.pend = h.pend /\ h'.chans = h.chans) (.inr ⟨rfl,.inr (.inl ⟨h1,h2,h3,fr,cs,fun g' h' => N g' h' /\ h'.todo = h.todo /\ h'.pend = h.pend /\ h'.chans = h.chans,rfl,?_,?_⟩)⟩) ?_
  ·intro w hf;obtain ⟨g',w',es,h',a1,a2,a3,a4⟩ := hs w hf;exact ⟨g',w',es,h',a1,a2,a3,a4,rfl,rfl,rfl⟩
  ·rintro g' h' ⟨hn,e1,e2,e3⟩;exact ⟨⟨e1,e2,e3⟩,hN g' h' hn,hn,e1,e2,e3⟩
  ·rintro g' h' ⟨hn,e1,e2,e3⟩;exact ih g' h' hn (by rw [e1]; exact h1) (by rw [e2]; exact h2) (by rw [e3]; exact h3)
 | done hk l =>
  intro h1 h2 h3;exact run1W_life l _ hk h2 (by show List.length _ = 0; rw [h3]; rfl)
theorem WSt.run1 {g:Goroutine} {h:LH} (a:WSt P ty Wg C g h):Run1W P ty Wg C g h := by
 cases a with
 | old h0 hq => exact run1W_old _ _ _ h0 hq
 | work h1 h2 h3 hw => exact run1W_wk hw h1 h2 h3
 | lib hk h1 h2 l => exact run1W_life l h hk rfl rfl
inductive SysW (P:Program) (ty:TypeId) (Wg C:Nat):List (Goroutine × LH) -> Prop
 | mk (l:List (Goroutine × LH)) (K:Nat -> Goroutine -> LH -> Prop):(∀ i g h,l[i]? = some (g,h) -> MovesW P ty Wg C g h (K i)) -> (∀ i g' h',i < l.length -> K i g' h' -> SysW P ty Wg C (l.set i (g',h'))) -> SysW P ty Wg C l
theorem SysW.cons {g:Goroutine} {h:LH} (a:Run1W P ty Wg C g h):∀ l,SysW P ty Wg C l -> SysW P ty Wg C ((g,h) :: l) := by
 induction a with
 | mk g h K hm hk ih =>
  intro l hl
  induction hl with
  | mk l Kl hml hkl ihl =>
   refine .mk _ (fun i => match i with | 0 => K | i + 1 => Kl i) ?_ ?_
   ·intro i g' h' hi;cases i with
    | zero => simp at hi; obtain ⟨rfl,rfl⟩ := hi; exact hm
    | succ i => exact hml i g' h' (by simpa using hi)
   ·intro i g' h' hi hK;cases i with
    | zero => exact ih g' h' hK l (.mk l Kl hml hkl)
    | succ i => exact ihl i g' h' (by simpa using hi) hK
theorem SysW.all:∀ (l:List (Goroutine × LH)),(∀ x ∈ l,WSt P ty Wg C x.1 x.2) -> SysW P ty Wg C l
 | [],_ => .mk [] (fun _ _ _ => False) (fun i g h hi => by simp at hi) (fun i g' h' hi => by simp at hi)
 | x :: l,h => SysW.cons (h x (by simp)).run1 l (SysW.all l fun y hy => h y (by simp [hy]))
end
section
open Go Go.Conc
open Go.ConcR (KK wgBlock WgAt stA smA rd wr mk)
open Go.ConcN (RelBy)
def Rel (t:Trace) (i:Nat) (a:Addr) (ks:Key -> Prop):Prop := ∃ q,RelBy a t i q /\ ∀ k,ks k -> ∀ p b,Touches t p k b -> HB t p q
theorem g?_some {t:Trace} {p g:Nat} (h:t.g? p = some g):∃ x,t[p]? = some x /\ x.g = g := Option.map_eq_some_iff.1 h
theorem Rel.done {t:Trace} {i:Nat} {a:Addr} {ks:Key -> Prop} (h:Rel t i a ks):∃ p,Done t i a ks p := by
 obtain ⟨q,r,hk⟩ := h;refine ⟨q,r.act,r.g,r.heard,hk,fun p hp hc => ?_⟩;rcases Nat.lt_trichotomy p q with h1 | h1 | h1
 ·obtain ⟨x,hx,ex⟩ := g?_some hp;obtain ⟨y,hy,ey⟩ := g?_some r.g;exact HB.po h1 hx hy (ex.trans ey.symm)
 ·subst h1;obtain ⟨x,hx,_⟩ := hc;rw [r.act] at hx; cases hx
 ·exact absurd hc (r.after p h1 hp)
def Spares (u:Trace) (ks:Key -> Prop):Prop := ∀ op ∈ u,∀ x,op.act.touch? = some x -> ∀ k,key? x.loc = some k -> ¬ ks k
theorem Spares.old {t u:Trace} {ks:Key -> Prop} (hu:Spares u ks) {k:Key} (hk:ks k) {p:Nat} {b:Bool} (ht:Touches (t ++ u) p k b):Touches t p k b := by
 rcases Nat.lt_or_ge p t.size with hp | hp
 ·exact ht.old hp
 ·obtain ⟨op,x,h1,h2,h3,_⟩ := ht;rcases getElem?_append_cases h1 with ⟨hp',_⟩ | ⟨_,hop⟩
  ·exact absurd hp' (Nat.not_lt.2 hp)
  ·exact absurd hk (hu op hop x h2 k h3)
theorem Rel.other {t u:Trace} {i g:Nat} {a:Addr} {ks:Key -> Prop} (h:Rel t i a ks) (hg:∀ op ∈ u,op.g = g) (hne:g ≠ i) (hu:Spares u ks):Rel (t ++ u) i a ks := by
 obtain ⟨q,r,hk⟩ := h;exact ⟨q,r.appOther hg hne,fun k hks p b ht => (hk k hks p b (hu.old hks ht)).append⟩
theorem Rel.own {t:Trace} {i:Nat} {a:Addr} {ks:Key -> Prop} (h:Rel t i a ks) (fn:FuncId) (pos:String) (es:Array Event)
  (hes:∀ (j:Nat) e,es[j]? = some e -> (MemAct.ofEvent e).touch? = none \/ ((∃ ad wr,e = ⟨.cell ad,wr,true⟩) /\ 0 < deafBehind (Deaf t i) (es.extract 0 j))) (hu:Spares (MemOp.ofEvents i fn pos es) ks):Rel (t ++ MemOp.ofEvents i fn pos es) i a ks := by
 obtain ⟨q,r,hk⟩ := h;exact ⟨q,r.appOwn fn pos es hes,fun k hks p b ht => (hk k hks p b (hu.old hks ht)).append⟩
theorem TI.rel {sy:Sy} {t:Trace} {n ng:Nat} {hold:Nat -> Key -> Option Bool} {gone:Nat -> Prop} (h:TI sy t n ng hold gone) {i:Nat} {a:Addr} {ks:Key -> Prop} (hks:∀ k,ks k -> hold i k = some true) (hd:Deaf t i = 0) (fn:FuncId) (pos:String) :
  Rel (t ++ MemOp.ofEvents i fn pos #[Go.ConcR.mk (.releaseMerge a)]) i a ks := by
 refine ⟨t.size,RelBy.new hd fn pos,fun k hk p b ht => ?_⟩;have r := RelBy.new (a := a) hd fn pos;obtain ⟨z,hz,ez⟩ := g?_some r.g;have sp:Spares (MemOp.ofEvents i fn pos #[Go.ConcR.mk (.releaseMerge a)]) ks := by
  intro op hop x hx;obtain ⟨_,e,he,ha⟩ := ofEvents_mem hop;rw [Array.mem_singleton] at he;subst he;rw [ha] at hx; cases hx
 have ht' := sp.old hk ht;have := h.own i k (hks k hk) p b ht';rw [<- ez] at this;exact this.new hz (Nat.le_refl _)
def LibE (Wg g:Nat) (e:Event):Prop := e.loc = .mark .disable \/ e.loc = .mark .enable \/ (∃ a,e.loc = .mark (.releaseMerge a)) \/ (∃ a,e.loc = .mark (.acquire a)) \/ (∃ a b,e = ⟨.cell a,b,true⟩ /\ a.block = Wg) \/ (g = 0 /\ ∃ a,(e.loc = .mark (.read a) \/ e.loc = .mark (.write a)) /\ a.block = Wg)
theorem syncOps {sy:Sy} {Wg g:Nat} (hu:sy.use g Wg) {fn:FuncId} {pos:String} {es:Array Event} (hes:∀ e ∈ es,LibE Wg g e):∀ op ∈ MemOp.ofEvents g fn pos es,SyncOp sy g op := by
 intro op hop;obtain ⟨hg,e,he,ha⟩ := ofEvents_mem hop;have key:(∀ x,(MemAct.ofEvent e).touch? = some x -> x.kind ≠ .plain /\ (x.kind = .said -> g = 0) /\ ∀ k,key? x.loc = some k -> sy.use g k.1) /\ ∀ a,MemAct.ofEvent e ≠ .mark (.release a) := by
  have mark0:∀ m,e.loc = .mark m -> MemAct.ofEvent e = .mark m \/ (∃ a,m = .read a /\ MemAct.ofEvent e = .mark (.read a)) \/ True := fun _ _ => .inr (.inr trivial);obtain ⟨loc,w,s⟩ := e;rcases hes _ he with h | h | ⟨a,h⟩ | ⟨a,h⟩ | ⟨a,b,h,hb⟩ | ⟨h0,a,h | h,hb⟩
  ·simp only at h; subst h; exact ⟨nofun,nofun⟩
  ·simp only at h; subst h; exact ⟨nofun,nofun⟩
  ·simp only at h; subst h; exact ⟨nofun,nofun⟩
  ·simp only at h; subst h; exact ⟨nofun,nofun⟩
  ·cases h;refine ⟨fun x hx => ?_,nofun⟩;simp only [MemAct.ofEvent,MemAct.touch?,Option.some.injEq] at hx;subst hx;refine ⟨by simp,by simp,fun k hk => ?_⟩;simp only [key?,Option.some.injEq] at hk;subst hk; rw [hb]; exact hu
  ·simp only at h; subst h;refine ⟨fun x hx => ?_,nofun⟩;simp only [MemAct.ofEvent,MemAct.touch?,Option.some.injEq] at hx;subst hx;refine ⟨by simp,fun _ => h0,fun k hk => ?_⟩;simp only [key?,Option.some.injEq] at hk;subst hk; rw [hb]; exact hu
  ·simp only at h; subst h;refine ⟨fun x hx => ?_,nofun⟩;simp only [MemAct.ofEvent,MemAct.touch?,Option.some.injEq] at hx;subst hx;refine ⟨by simp,fun _ => h0,fun k hk => ?_⟩;simp only [key?,Option.some.injEq] at hk;subst hk; rw [hb]; exact hu
 exact ⟨hg,fun x hx => key.1 x (by rw [<- ha]; exact hx),fun a => by rw [ha]; exact key.2 a⟩
/-! ### The count -/
def cntW (h:LH):Nat := if 5 <= stg h then 1 else 0
def Vw:Crew -> Nat
 | [] => 0
 | x :: l => cntW x.2 + Vw l
theorem Vw_set:∀ (ws:Crew) (i:Nat) (x y:Goroutine × LH),ws[i]? = some x -> Vw (ws.set i y) + cntW x.2 = Vw ws + cntW y.2
 | [],i,x,y,h => by simp at h
 | a :: ws,0,x,y,h => by
  simp at h; subst h;simp only [List.set_cons_zero,Vw]; omega
 | a :: ws,i + 1,x,y,h => by
  have := Vw_set ws i x y (by simpa using h);simp only [List.set_cons_succ,Vw]; omega
theorem Vw_pos {ws:Crew} (h:1 <= Vw ws):∃ (i:Nat) (x:Goroutine × LH),ws[i]? = some x /\ 5 <= stg x.2 := by
 induction ws with
 | nil => simp [Vw] at h
 | cons a ws ih =>
  by_cases e:5 <= stg a.2
  ·exact ⟨0,a,rfl,e⟩
  ·simp only [Vw,cntW,if_neg e,Nat.zero_add] at h;obtain ⟨i,x,h1,h2⟩ := ih h;exact ⟨i + 1,x,by simpa using h1,h2⟩
theorem le_Vw:∀ {ws:Crew} {i:Nat} {x:Goroutine × LH},ws[i]? = some x -> cntW x.2 <= Vw ws
 | [],i,x,h => by simp at h
 | a :: ws,0,x,h => by simp at h; subst h; simp only [Vw]; omega
 | a :: ws,i + 1,x,h => by
  have := le_Vw (ws := ws) (i := i) (x := x) (by simpa using h);simp only [Vw]; omega
theorem Vw_pending (ws:Crew):Vw ws <= (pending ws).length := by
 induction ws with
 | nil => simp [Vw]
 | cons a ws ih =>
  show cntW a.2 + Vw ws <= (cons' a.2.todo (pending ws)).length;cases e:a.2.todo with
  | nil => simp only [cntW,stg,e,cons']; simpa using ih
  | cons b l =>
   have:cntW a.2 <= 1 := by unfold cntW; split <;> omega
   simp only [cons',List.length_cons]; omega
theorem Vw_append (ws:Crew) (x:Goroutine × LH):Vw (ws ++ [x]) = Vw ws + cntW x.2 := by
 induction ws with
 | nil => simp [Vw]
 | cons a ws ih => simp only [List.cons_append,Vw,ih]; omega
theorem Vw_zero {ws:Crew} (h:∀ x ∈ ws,stg x.2 <= 1):Vw ws = 0 := by
 induction ws with
 | nil => rfl
 | cons a ws ih =>
  have := h a List.mem_cons_self;simp only [Vw,cntW,if_neg (show ¬ 5 <= stg a.2 by omega),ih fun x hx => h x (List.mem_cons_of_mem _ hx)]
inductive MT
 | opn (k p:Nat)
 | reg
 | fin
def Calm (ws:Crew):Prop := ∀ x ∈ ws,stg x.2 = 0 \/ stg x.2 = 1 \/ stg x.2 = 5 \/ stg x.2 = 6 \/ stg x.2 = 7
def Quiet (ws:Crew):Prop := ∀ x ∈ ws,stg x.2 <= 1
inductive Mode (ws:Crew):MT -> Int -> Int -> Prop
 | opn {k p:Nat}:Calm ws -> Vw ws <= k -> p <= 1 -> Mode ws (.opn k p) (((Vw ws:Int) + (p:Int)) * KK) 0
 | reg:Calm ws -> 1 <= Vw ws -> Mode ws .reg ((Vw ws:Int) * KK + 1) 0
 | last {i:Nat} {x:Goroutine × LH} {st:Int}:ws[i]? = some x -> ((stg x.2 = 4 \/ stg x.2 = 3) /\ st = 1 \/ stg x.2 = 2 /\ st = 0) -> (∀ j y,ws[j]? = some y -> j ≠ i -> stg y.2 <= 1) -> Mode ws .reg st 0
 | sema:Quiet ws -> Mode ws .reg 0 1
 | fin:Quiet ws -> Mode ws .fin 0 0
def outK (C n:Nat) (k:Key):Prop := k.1 = C /\ ∀ i,k.2 = some i -> n <= i
structure InvW (P:Program) (ty:TypeId) (C Wg:Nat) (md:MT) (d:Nat) (sy:Sy) (n0:Nat) (w0:World) (ps:List Script) (h:LH) (ws:Crew) (w:World) (t:Trace):Prop where
 mem:MemW sy n0 w0 C (cellsOf h ws) (ws.length + 1) (goneW ws) w t
 wg:sy.sp Wg /\ n0 <= Wg /\ sy.use 0 Wg
 st:∀ x ∈ ws,WSt P ty Wg C x.1 x.2
 tr:∀ (i:Nat) x,ws[i]? = some x -> Deaf t (i + 1) = x.2.dp /\ (x.2.todo ≠ [] -> sy.use (i + 1) Wg /\ (x.2.pend.length <= 6 -> Rel t (i + 1) (stA Wg) (ownC (cellsOf h ws) C (i + 1))))
 pend:List.Perm ps (pending ws)
 small:ps.length < 2147483646
 deaf0:Deaf t 0 = d
 mode:∃ st sm,WgAt ty Wg w st sm /\ Mode ws md st sm
 oldC:∀ x ∈ ws,x.2.todo = [] -> x.2.get C = none
 spC:¬ sy.sp C
 outC:∃ n,(∃ c e f,w.heap[C]? = some (.cells c e f) /\ c.size = n) /\ ∀ k p b,outK C n k -> Touches t p k b -> Knows t p 0
variable {P:Program} {Φ:Value -> World -> Prop} {ty:TypeId} {C Wg:Nat} {md:MT} {d:Nat} {sy:Sy} {n0:Nat} {w0:World} {ps:List Script} {h:LH} {ws:Crew} {w:World} {t:Trace} {sl:Option (Nat × Nat)}
theorem InvW.at (I:InvW P ty C Wg md d sy n0 w0 ps h ws w t) (k:Nat):InvW P ty C Wg md d sy n0 w0 ps h ws (w.at k) t := ⟨I.mem.at k,I.wg,I.st,I.tr,I.pend,I.small,I.deaf0,I.mode,I.oldC,I.spC,I.outC⟩
theorem InvW.count (I:InvW P ty C Wg md d sy n0 w0 ps h ws w t):Vw ws < 2147483646 := Nat.lt_of_le_of_lt (Vw_pending ws) (by rw [<- I.pend.length_eq]; exact I.small)
theorem ownC_not_sp (m:MemW sy n0 w0 C (cellsOf h ws) (ws.length + 1) (goneW ws) w t) {i:Nat} {k:Key} (hk:ownC (cellsOf h ws) C i k):¬ sy.sp k.1 := (m.ti.held i k true hk.2).2
theorem Spares.sync (m:MemW sy n0 w0 C (cellsOf h ws) (ws.length + 1) (goneW ws) w t) {g i:Nat} {u:Trace} (hu:∀ op ∈ u,SyncOp sy g op):Spares u (ownC (cellsOf h ws) C i) := by
 intro op hop x hx k hk hks;exact ownC_not_sp m hks (m.ti.acc g k.1 (((hu op hop).touch x hx).2.2 k hk)).1
theorem Spares.step (m:MemW sy n0 w0 C (cellsOf h ws) (ws.length + 1) (goneW ws) w t) {g i:Nat} (hgi:g ≠ i) {h':Cells} {w':World} {es:Array Event} {fn:FuncId} {pos:String} (hes:∀ e ∈ es,EvOk (cellsOf h ws g) w.heap.size w'.heap.size e):Spares (MemOp.ofEvents g fn pos es) (ownC (cellsOf h ws) C i) := by
 intro op hop x hx k hk ⟨hkC,hown⟩;obtain ⟨_,e,he,ha⟩ := ofEvents_mem hop;rw [ha] at hx;have hev := hes e he;have clash:∀ b,holdsP (cellsOf h ws) g k = some b -> False := fun b hb => by
  rw [m.ti.excl i g k (Ne.symm hgi) hown] at hb; cases hb
 have new:¬ w.heap.size <= k.1 := by rw [hkC]; exact Nat.not_le.2 m.cl
 unfold EvOk at hev;unfold MemAct.ofEvent at hx;split at hx
 ·cases hx
 ·rename_i m' _ _;cases (show m' = .noRoom from hev); cases hx
 ·simp only [MemAct.touch?,Option.some.injEq] at hx;subst hx;simp only at hk;split at hev
  ·rename_i a hl;rw [hl] at hk;simp only [key?,Option.some.injEq] at hk;subst hk;rcases hev.2 with ⟨h1,_⟩ | ⟨y,hy,_,hh⟩
   ·exact new h1
   ·exact clash _ (holdsP_of hy hh)
  ·rename_i r hl;rw [hl] at hk;simp only [key?,Option.some.injEq] at hk;subst hk;rcases hev with ⟨h1,_⟩ | ⟨y,hy,_,hh⟩
   ·exact new h1
   ·exact clash _ (holdsP_of hy (not_holeK hh _))
  ·rename_i hl; rw [hl] at hk; cases hk
  ·exact hev.elim
theorem Spares.syncO (m:MemW sy n0 w0 C (cellsOf h ws) (ws.length + 1) (goneW ws) w t) (h0:¬ sy.sp C) {g n:Nat} {u:Trace} (hu:∀ op ∈ u,SyncOp sy g op):Spares u (outK C n) := by
 intro op hop x hx k hk hks;have := (m.ti.acc g k.1 (((hu op hop).touch x hx).2.2 k hk)).1;rw [hks.1] at this;exact h0 this
theorem Spares.stepO (m:MemW sy n0 w0 C (cellsOf h ws) (ws.length + 1) (goneW ws) w t) {g n:Nat} (hn:∃ c e f,w.heap[C]? = some (.cells c e f) /\ c.size = n) {w':World} {es:Array Event} {fn:FuncId} {pos:String} (hes:∀ e ∈ es,EvOk (cellsOf h ws g) w.heap.size w'.heap.size e):Spares (MemOp.ofEvents g fn pos es) (outK C n) := by
 intro op hop x hx k hk ⟨hkC,hout⟩;obtain ⟨_,e,he,ha⟩ := ofEvents_mem hop;rw [ha] at hx;have hev := hes e he;have new:¬ w.heap.size <= k.1 := by rw [hkC]; exact Nat.not_le.2 m.cl
 unfold EvOk at hev;unfold MemAct.ofEvent at hx;split at hx
 ·cases hx
 ·rename_i m' _ _;cases (show m' = .noRoom from hev); cases hx
 ·simp only [MemAct.touch?,Option.some.injEq] at hx;subst hx;simp only at hk;split at hev
  ·rename_i a hl;rw [hl] at hk;simp only [key?,Option.some.injEq] at hk;subst hk;rcases hev.2 with ⟨h1,_⟩ | ⟨y,hy,_,hh⟩
   ·exact new h1
   ·simp only at hkC;rw [hkC] at hy;obtain ⟨_,c',e',ey⟩ := m.part g y.1 y.2 hy;rw [ey] at hh;obtain ⟨o',h1,h2⟩ := m.fits g C y.1 y.2 hy;rw [ey] at h2;obtain ⟨c2,rfl,h3,_⟩ := h2;obtain ⟨c,e1,f,h4,h5⟩ := hn;rw [h1] at h4; cases h4;obtain ⟨v,hv,_⟩ := not_hole_val hh;have := (Array.getElem?_eq_some_iff.1 hv).1;have := hout a.off rfl;omega
  ·rename_i r hl;rw [hl] at hk;simp only [key?,Option.some.injEq] at hk;subst hk;rcases hev with ⟨h1,_⟩ | ⟨y,hy,_,hh⟩
   ·exact new h1
   ·simp only at hkC;rw [hkC] at hy;obtain ⟨_,c',e',ey⟩ := m.part g y.1 y.2 hy;rw [ey] at hh;exact hh _ (hole_end c' e')
  ·rename_i hl; rw [hl] at hk; cases hk
  ·exact hev.elim
theorem outC_app {n:Nat} {u:Trace} (h:∀ k p b,outK C n k -> Touches t p k b -> Knows t p 0) (hu:Spares u (outK C n)):∀ k p b,outK C n k -> Touches (t ++ u) p k b -> Knows (t ++ u) p 0 :=
 fun k p b hk ht => (h k p b hk (hu.old hk ht)).append
theorem sizeC (m:MemW sy n0 w0 C (cellsOf h ws) (ws.length + 1) (goneW ws) w t) {g n:Nat} (hn:∃ c e f,w.heap[C]? = some (.cells c e f) /\ c.size = n) {k':Cells} {w':World} (tr:Tr (cellsOf h ws g) w k' w'):∃ c e f,w'.heap[C]? = some (.cells c e f) /\ c.size = n := by
 obtain ⟨c,e,f,h1,h2⟩ := hn;by_cases ho:(cellsOf h ws g).own C
 ·obtain ⟨o,ho⟩ := ho;obtain ⟨_,c',e',rfl⟩ := m.part g _ _ ho;obtain ⟨o₂,h3,hk⟩ := tr.part C _ _ ho h1;obtain ⟨c1,c2,e1,f1,e2,rfl,hs,_⟩ := hk ⟨_,hole_end c' e'⟩;cases e2;exact ⟨c2,_,_,h3,hs.trans h2⟩
 ·exact ⟨c,e,f,by rw [tr.other C m.cl ho]; exact h1,h2⟩
theorem InvW.syncW (I:InvW P ty C Wg md d sy n0 w0 ps h ws w t) {i:Nat} {gw g':Goroutine} {hw h':LH} (hi:ws[i]? = some (gw,hw)) (hk:hw.todo ≠ []) (hget:h'.get = hw.get) (htodo:h'.todo = hw.todo) {fn:FuncId} {pos:String} {es:Array Event} (hes:∀ e ∈ es,LibE Wg (i + 1) e) {w':World}
  (hw':Aside Wg w w') (hst:WSt P ty Wg C g' h') (hD:deafBehind hw.dp es = h'.dp) (hrel:h'.pend.length <= 6 -> Rel (t ++ MemOp.ofEvents (i + 1) fn pos es) (i + 1) (stA Wg) (ownC (cellsOf h ws) C (i + 1)))
  (hmode:∃ st sm,WgAt ty Wg w' st sm /\ Mode (ws.set i (g',h')) md st sm) :
  ∃ sy',InvW P ty C Wg md d sy' n0 w0 ps h (ws.set i (g',h')) w' (t ++ MemOp.ofEvents (i + 1) fn pos es) := by
 have hlt:i < ws.length := (List.getElem?_eq_some_iff.1 hi).1;obtain ⟨t1,t2⟩ := I.tr i _ hi;obtain ⟨huse,_⟩ := t2 hk;have hS := syncOps (sy := sy) (fn := fn) (pos := pos) huse hes;have hu:∀ op ∈ MemOp.ofEvents (i + 1) fn pos es,op.g = i + 1 := fun op hop => (ofEvents_mem hop).1;have hc:cellsOf h (ws.set i (g',h')) = cellsOf h ws := by
  rw [cellsOf_set hlt];funext k;by_cases e:k = i + 1
  ·subst e; simp [cellsOf,hi,hget]
  ·simp [e]
 obtain ⟨rest,p1,p2⟩ := pending_set ws i _ hi;have hCW:C ≠ Wg := fun e => by have := I.spC; rw [e] at this; exact this I.wg.1
 obtain ⟨nC,⟨cC,eC,fC,q1,q2⟩,q3⟩ := I.outC;refine ⟨sy.deafen (i + 1) (Deaf (t ++ MemOp.ofEvents (i + 1) fn pos es) (i + 1)),?_,I.wg,?_,?_,?_,I.small,?_,hmode,?_,I.spC,nC,⟨cC,eC,fC,by rw [hw'.block C hCW]; exact q1,q2⟩,outC_app q3 (.syncO I.mem I.spC hS)⟩
 ·rw [hc,goneW_set (x := (gw,hw)) (y := (g',h')) hi htodo,List.length_set];exact I.mem.sync (Nat.succ_lt_succ hlt) (not_gone hi hk) hS I.wg.1 I.wg.2.1 hw'.size hw'.block hw'.os hw'.tape hw'.output
 ·intro x hx;rcases List.mem_or_eq_of_mem_set hx with hx | rfl
  ·exact I.st x hx
  ·exact hst
 ·intro j x hx;rw [hc];rcases set_some hx with ⟨rfl,rfl⟩ | ⟨hne,hx⟩
  ·exact ⟨by rw [Deaf_own,t1]; exact hD,fun _ => ⟨huse,hrel⟩⟩
  ·obtain ⟨a1,a2⟩ := I.tr j x hx;refine ⟨by rw [Deaf_other t (fun e => hne (Nat.succ.inj e).symm) _ hu]; exact a1,fun hne' => ⟨(a2 hne').1,fun h6 => ?_⟩⟩;exact ((a2 hne').2 h6).other hu (fun e => hne (Nat.succ.inj e).symm) (.sync I.mem hS)
 ·refine I.pend.trans (p1.trans ?_);have := p2 (g',h');rw [show (g',h').2.todo = hw.todo from htodo] at this;exact this.symm
 ·rw [Deaf_other t (Nat.succ_ne_zero i) _ hu]; exact I.deaf0
 ·intro x hx hx0;rcases List.mem_or_eq_of_mem_set hx with hx | rfl
  ·exact I.oldC x hx hx0
  ·exact absurd (htodo.symm.trans hx0) hk
theorem InvW.stepW (I:InvW P ty C Wg md d sy n0 w0 ps h ws w t) {i:Nat} {gw g':Goroutine} {hw h':LH} (hi:ws[i]? = some (gw,hw)) (hk:hw.todo ≠ []) (h7:hw.pend.length = 7) {k':Cells} (hget:h'.get = k') (htodo:h'.todo = hw.todo) (hpend:h'.pend = hw.pend) (hch:h'.chans = hw.chans) {w':World} {es:Array Event} (fn:FuncId) (pos:String)
  (tr:Tr hw.get w k' w') (hes:∀ e ∈ es,EvOk hw.get w.heap.size w'.heap.size e) (hst:WSt P ty Wg C g' h') :
  InvW P ty C Wg md d sy n0 w0 ps h (ws.set i (g',h')) w' (t ++ MemOp.ofEvents (i + 1) fn pos es) := by
 have hlt:i < ws.length := (List.getElem?_eq_some_iff.1 hi).1;have hci:cellsOf h ws (i + 1) = hw.get := by simp [cellsOf,hi]
 obtain ⟨rest,p1,p2⟩ := pending_set ws i _ hi;obtain ⟨t1,t2⟩ := I.tr i _ hi;have hu:∀ op ∈ MemOp.ofEvents (i + 1) fn pos es,op.g = i + 1 := fun op hop => (ofEvents_mem hop).1;have hcs:cellsOf h (ws.set i (g',h')) = fun k => if k = i + 1 then k' else cellsOf h ws k := by rw [cellsOf_set hlt,hget]
 obtain ⟨hm,hsp⟩ := I.mem.step (j := i + 1) (Nat.succ_lt_succ hlt) (not_gone hi hk) fn pos (by rw [hci]; exact tr) (by rw [hci]; exact hes);have hD:Deaf (t ++ MemOp.ofEvents (i + 1) fn pos es) (i + 1) = Deaf t (i + 1) := by
  rw [Deaf_own,deafBehind_none];intro e he;have := hes e he;unfold EvOk at this;refine ⟨fun hl => ?_,fun hl => ?_⟩ <;> (rw [hl] at this; cases this)
 obtain ⟨nC,hnC,q3⟩ := I.outC;refine ⟨?_,I.wg,?_,?_,?_,I.small,?_,?_,?_,I.spC,nC,sizeC I.mem (g := i + 1) hnC (by rw [hci]; exact tr),outC_app q3 (.stepO (w' := w') I.mem (g := i + 1) hnC (by rw [hci]; exact hes))⟩
 ·rw [hcs,goneW_set (x := (gw,hw)) (y := (g',h')) hi htodo,List.length_set]; exact hm
 ·intro x hx;rcases List.mem_or_eq_of_mem_set hx with hx | rfl
  ·exact I.st x hx
  ·exact hst
 ·intro j x hx;rcases set_some hx with ⟨rfl,rfl⟩ | ⟨hne,hx⟩
  ·refine ⟨?_,fun hne' => ⟨(t2 hk).1,fun h6 => ?_⟩⟩
   ·rw [hD,t1]; show hw.chans.length = h'.chans.length; rw [hch]
   ·exact absurd h6 (by show ¬ h'.pend.length <= 6; rw [hpend,h7]; omega)
  ·obtain ⟨a1,a2⟩ := I.tr j x hx;refine ⟨by rw [Deaf_other t (fun e => hne (Nat.succ.inj e).symm) _ hu]; exact a1,fun hne' => ⟨(a2 hne').1,fun h6 => ?_⟩⟩;have e:ownC (cellsOf h (ws.set i (g',h'))) C (j + 1) = ownC (cellsOf h ws) C (j + 1) := by
    funext k;unfold ownC holdsP;rw [hcs];simp only [show ¬ (j + 1 = i + 1) from fun e => hne (Nat.succ.inj e),if_false]
   rw [e];exact ((a2 hne').2 h6).other hu (fun e => hne (Nat.succ.inj e).symm) (.step (w' := w') I.mem (fun e => hne (Nat.succ.inj e).symm) (h' := k') (by rw [hci]; exact hes))
 ·refine I.pend.trans (p1.trans ?_);have := p2 (g',h');rw [show (g',h').2.todo = hw.todo from htodo] at this;exact this.symm
 ·rw [Deaf_other t (Nat.succ_ne_zero i) _ hu]; exact I.deaf0
 ·obtain ⟨st,sm,h1,h2⟩ := I.mode;refine ⟨st,sm,(hsp Wg I.wg.1).trans h1,?_⟩;have es:stg h' = stg hw := by unfold stg; rw [htodo,hpend]
  have eV:Vw (ws.set i (g',h')) = Vw ws := by
   have := Vw_set ws i _ (g',h') hi;simp only [cntW,es] at this; omega
  have eC:Calm ws -> Calm (ws.set i (g',h')) := fun hc x hx => by
   rcases List.mem_or_eq_of_mem_set hx with hx | rfl
   ·exact hc x hx
   ·rw [show stg (g',h').2 = stg hw from es]; exact hc _ (List.mem_of_getElem? hi)
  have s7:stg hw = 7 := by rw [stg_ne hk,h7]
  have nq:¬ Quiet ws := fun hq => absurd (hq _ (List.mem_of_getElem? hi)) (by show ¬ stg hw <= 1; omega);cases h2 with
  | opn a b c => rw [<- eV]; exact .opn (eC a) (by rw [eV]; exact b) c
  | reg a b => rw [<- eV]; exact .reg (eC a) (by rw [eV]; exact b)
  | last a b c =>
   rename_i i' x;exfalso;by_cases e:i' = i
   ·subst e;rw [hi] at a; cases a;rcases b with ⟨b | b,_⟩ | ⟨b,_⟩ <;> (simp only at b; omega)
   ·have := c i _ hi (fun e' => e e'.symm);simp only at this; omega
  | sema a => exact absurd a nq
  | fin a => exact absurd a nq
 ·intro x hx hx0;rcases List.mem_or_eq_of_mem_set hx with hx | rfl
  ·exact I.oldC x hx hx0
  ·exact absurd (htodo.symm.trans hx0) hk
theorem InvW.sayW (I:InvW P ty C Wg md d sy n0 w0 ps h ws w t) {i:Nat} {gw g':Goroutine} {hw:LH} (hi:ws[i]? = some (gw,hw)) (h0:hw.todo = []) {es:Array Event} (hm:∀ e ∈ es,Event.mute e = true) (fn:FuncId) (pos:String) {n:Nat} (hq:QuitsD P n (deafBehind hw.dp es) g') :
  InvW P ty C Wg md d sy n0 w0 ps h (ws.set i (g',hw.deaf (deafBehind hw.dp es))) w (t ++ MemOp.ofEvents (i + 1) fn pos es) := by
 have hlt:i < ws.length := (List.getElem?_eq_some_iff.1 hi).1;have hc:cellsOf h (ws.set i (g',hw.deaf (deafBehind hw.dp es))) = cellsOf h ws := by
  rw [cellsOf_set hlt];funext k;by_cases e:k = i + 1
  ·subst e; simp [cellsOf,hi,LH.deaf]
  ·simp [e]
 have hu:∀ op ∈ MemOp.ofEvents (i + 1) fn pos es,op.g = i + 1 := fun op hop => (ofEvents_mem hop).1;have hs0:∀ d',stg (hw.deaf d') = 0 := fun d' => by unfold stg LH.deaf; simp only [h0]
 have hsp:∀ ks,Spares (MemOp.ofEvents (i + 1) fn pos es) ks := by
  intro ks op hop x hx;obtain ⟨_,e,he,ha⟩ := ofEvents_mem hop;rw [ha,touch_mute (hm e he)] at hx; cases hx
 obtain ⟨rest,p1,p2⟩ := pending_set ws i _ hi;obtain ⟨nC,hnC,q3⟩ := I.outC;refine ⟨?_,I.wg,?_,?_,I.pend.trans (p1.trans (p2 (g',hw.deaf (deafBehind hw.dp es))).symm),I.small,?_,?_,?_,I.spC,nC,hnC,outC_app q3 (hsp _)⟩
 ·rw [hc,goneW_set (x := (gw,hw)) (y := (g',hw.deaf (deafBehind hw.dp es))) hi rfl,List.length_set];have m := I.mem;exact ⟨m.fits,m.part,m.whole,m.ti.say (Nat.succ_lt_succ hlt) ⟨_,hi,h0⟩ hm,m.off,m.cl,m.out,m.pos,m.base,m.low,m.size,m.os,m.tape,m.output⟩
 ·intro x hx;rcases List.mem_or_eq_of_mem_set hx with hx | rfl
  ·exact I.st x hx
  ·exact .old h0 (by rw [LH.dp_deaf]; exact hq)
 ·intro j x hx;rw [hc];rcases set_some hx with ⟨rfl,rfl⟩ | ⟨hne,hx⟩
  ·exact ⟨by rw [Deaf_own,(I.tr j _ hi).1,LH.dp_deaf],fun hne' => absurd h0 hne'⟩
  ·obtain ⟨a1,a2⟩ := I.tr j x hx;exact ⟨by rw [Deaf_other t (fun e => hne (Nat.succ.inj e).symm) _ hu]; exact a1,fun hne' => ⟨(a2 hne').1,fun h6 => ((a2 hne').2 h6).other hu (fun e => hne (Nat.succ.inj e).symm) (hsp _)⟩⟩
 ·rw [Deaf_other t (Nat.succ_ne_zero i) _ hu]; exact I.deaf0
 ·obtain ⟨st,sm,h1,h2⟩ := I.mode;refine ⟨st,sm,h1,?_⟩;have s0:stg hw = 0 := by unfold stg; rw [h0]
  have eV:Vw (ws.set i (g',hw.deaf (deafBehind hw.dp es))) = Vw ws := by
   have := Vw_set ws i _ (g',hw.deaf (deafBehind hw.dp es)) hi;simp only [cntW,hs0,s0] at this; omega
  have eC:Calm ws -> Calm (ws.set i (g',hw.deaf (deafBehind hw.dp es))) := fun hc x hx => by
   rcases List.mem_or_eq_of_mem_set hx with hx | rfl
   ·exact hc x hx
   ·exact .inl (hs0 _)
  have eQ:Quiet ws -> Quiet (ws.set i (g',hw.deaf (deafBehind hw.dp es))) := fun hc x hx => by
   rcases List.mem_or_eq_of_mem_set hx with hx | rfl
   ·exact hc x hx
   ·rw [show stg (g',hw.deaf (deafBehind hw.dp es)).2 = 0 from hs0 _]; omega
  cases h2 with
  | opn a b c => rw [<- eV]; exact .opn (eC a) (by rw [eV]; exact b) c
  | reg a b => rw [<- eV]; exact .reg (eC a) (by rw [eV]; exact b)
  | @last i' x st a b c =>
   have hne:i' ≠ i := by
    rintro rfl;rw [hi] at a; cases a;rcases b with ⟨b | b,_⟩ | ⟨b,_⟩ <;> (simp only at b; omega)
   refine .last (i := i') (x := x) (by rw [List.getElem?_set_ne (Ne.symm hne)]; exact a) b fun j y hy hj => ?_;rcases set_some hy with ⟨rfl,rfl⟩ | ⟨_,hy⟩
   ·rw [show stg (g',hw.deaf (deafBehind hw.dp es)).2 = 0 from hs0 _]; omega
   ·exact c j y hy hj
  | sema a => exact .sema (eQ a)
  | fin a => exact .fin (eQ a)
 ·intro x hx hx0;rcases List.mem_or_eq_of_mem_set hx with hx | rfl
  ·exact I.oldC x hx hx0
  ·exact I.oldC (gw,hw) (List.mem_of_getElem? hi) h0
end
section
open Go Go.Conc
open Go.ConcR (KK wgBlock WgAt stA smA rd wr)
variable {P:Program} {Φ:Value -> World -> Prop} {ty:TypeId} {C Wg:Nat} {md:MT} {d:Nat} {sy:Sy} {n0:Nat} {w0:World} {ps:List Script} {h:LH} {ws:Crew} {w:World} {t:Trace} {sl:Option (Nat × Nat)}
theorem Mode.same {i:Nat} {x y:Goroutine × LH} {st sm:Int} (m:Mode ws md st sm) (hi:ws[i]? = some x) (h1:stg y.2 = stg x.2 \/ (5 <= stg x.2 /\ stg x.2 <= 7 /\ 5 <= stg y.2 /\ stg y.2 <= 7)):Mode (ws.set i y) md st sm := by
 have ec:cntW y.2 = cntW x.2 := by
  unfold cntW;rcases h1 with h1 | ⟨a,_,b,_⟩
  ·rw [h1]
  ·rw [if_pos a,if_pos b]
 have eV:Vw (ws.set i y) = Vw ws := by have := Vw_set ws i x y hi; omega
 have hx := List.mem_of_getElem? hi;have eC:Calm ws -> Calm (ws.set i y) := fun hc z hz => by
  rcases List.mem_or_eq_of_mem_set hz with hz | rfl
  ·exact hc z hz
  ·rcases h1 with h1 | ⟨_,_,a,b⟩
   ·rw [h1]; exact hc _ hx
   ·omega
 have eQ:Quiet ws -> Quiet (ws.set i y) := fun hc z hz => by
  rcases List.mem_or_eq_of_mem_set hz with hz | rfl
  ·exact hc z hz
  ·have := hc _ hx;rcases h1 with h1 | ⟨a,_⟩ <;> omega
 cases m with
 | opn a b c => rw [<- eV]; exact .opn (eC a) (by rw [eV]; exact b) c
 | reg a b => rw [<- eV]; exact .reg (eC a) (by rw [eV]; exact b)
 | @last i' x' st a b c =>
  by_cases e:i' = i
  ·subst e;have hlt:i' < ws.length := (List.getElem?_eq_some_iff.1 a).1;rw [hi] at a; cases a;have hs:stg y.2 = stg x.2 := by rcases h1 with h1 | ⟨a',_⟩ <;> omega
   refine .last (i := i') (x := y) (by rw [List.getElem?_set_self hlt]) (by rw [hs]; exact b) fun j z hz hj => ?_;rcases set_some hz with ⟨rfl,rfl⟩ | ⟨_,hz⟩
   ·exact absurd rfl hj
   ·exact c j z hz hj
  ·refine .last (i := i') (x := x') (by rw [List.getElem?_set_ne (fun e' => e e'.symm)]; exact a) b fun j z hz hj => ?_;rcases set_some hz with ⟨rfl,rfl⟩ | ⟨_,hz⟩
   ·have := c j x hi (fun e' => e e'.symm);rcases h1 with h1 | ⟨a',_⟩ <;> omega
   ·exact c j z hz hj
 | sema a => exact .sema (eQ a)
 | fin a => exact .fin (eQ a)
theorem Mode.isLast {i:Nat} {x:Goroutine × LH} {st sm:Int} (m:Mode ws md st sm) (hi:ws[i]? = some x) (h2:2 <= stg x.2) (h4:stg x.2 <= 4) :
  md = .reg /\ sm = 0 /\ (stg x.2 = 2 -> st = 0) /\ (stg x.2 ≠ 2 -> st = 1) /\ ∀ j y,ws[j]? = some y -> j ≠ i -> stg y.2 <= 1 := by
 have hx := List.mem_of_getElem? hi;cases m with
 | opn a b _ => have := a _ hx; omega
 | reg a b => have := a _ hx; omega
 | @last i' x' st a b c =>
  have e:i' = i := Classical.byContradiction fun e => by have := c i x hi (fun e' => e e'.symm); omega
  subst e;rw [hi] at a; cases a;exact ⟨rfl,rfl,fun e => by rcases b with ⟨b,_⟩ | ⟨_,b⟩; omega; exact b,fun e => by rcases b with ⟨_,b⟩ | ⟨b,_⟩; exact b; omega,c⟩
 | sema a => have := a _ hx; omega
 | fin a => have := a _ hx; omega
theorem Mode.toLast {i:Nat} {y:Goroutine × LH} {st:Int} (hlt:i < ws.length) (b:(stg y.2 = 4 \/ stg y.2 = 3) /\ st = 1 \/ stg y.2 = 2 /\ st = 0) (c:∀ j z,ws[j]? = some z -> j ≠ i -> stg z.2 <= 1):Mode (ws.set i y) .reg st 0 := by
 refine .last (i := i) (x := y) (by rw [List.getElem?_set_self hlt]) b fun j z hz hj => ?_;rcases set_some hz with ⟨rfl,_⟩ | ⟨_,hz⟩
 ·exact absurd rfl hj
 ·exact c j z hz hj
theorem W0.of (I:InvW P ty C Wg md d sy n0 w0 ps h ws w t) {i:Nat} {x:Goroutine × LH} (hi:ws[i]? = some x) (h2:2 <= stg x.2):∃ st,WgAt ty Wg w st 0 /\ Mode ws md st 0 := by
 obtain ⟨st,sm,h1,m⟩ := I.mode;have hx := List.mem_of_getElem? hi;have e:sm = 0 := by
  cases m with
  | sema a => have := a _ hx; omega
  | _ => rfl
 subst e;exact ⟨st,h1,m⟩
theorem stg_to {h:LH} (k:h.todo ≠ []) (s d':Nat):stg (h.to s d') = s := by rw [stg_ne (show (h.to s d').todo ≠ [] from k),LH.len_to]
theorem ofEvents_nil (g:Nat) (fn:FuncId) (pos:String):MemOp.ofEvents g fn pos #[] = #[] := rfl
theorem aside_refl (w:World):Aside Wg w w := ⟨rfl,rfl,rfl,rfl,fun _ _ => rfl⟩
theorem InvW.lib (I:InvW P ty C Wg md d sy n0 w0 ps h ws w t) {i:Nat} {gw:Goroutine} {hw:LH} (hi:ws[i]? = some (gw,hw)) (hk:Kept C hw) (h1:1 <= hw.pend.length) (h7:hw.pend.length <= 7) {K:Goroutine -> LH -> Prop} (hm:LibMove P ty Wg K hw.pend.length hw.dp gw hw) (fn:FuncId) (pos:String) :
  ∃ g' h' w' es sy',K g' h' /\ stepG P false gw w = .go g' w' es /\ InvW P ty C Wg md d sy' n0 w0 ps h (ws.set i (g',h')) w' (t ++ MemOp.ofEvents (i + 1) fn pos es) /\ (∀ st,WgAt ty Wg w st 0 -> (∃ st',WgAt ty Wg w' st' 0) \/ (mayWake P gw = true /\ (g'.status = .running \/ g'.status = .finished))) := by
 have hne := hk.ne;have hlt:i < ws.length := (List.getElem?_eq_some_iff.1 hi).1;have hsg:stg hw = hw.pend.length := stg_ne hne;obtain ⟨t1,t2⟩ := I.tr i _ hi;obtain ⟨huse,t3⟩ := t2 hne;simp only at t1 t3;have sp:∀ es:Array Event,(∀ e ∈ es,LibE Wg (i + 1) e) -> Spares (MemOp.ofEvents (i + 1) fn pos es) (ownC (cellsOf h ws) C (i + 1)) := fun es hes => .sync I.mem (syncOps (sy := sy) huse hes);generalize hs:hw.pend.length = s at hm h1 h7 hsg t3;generalize hd:hw.dp = dd at hm t1;cases hm with
 | idle nx a1 a2 a3 a4 =>
  obtain ⟨st,hat,m⟩ := W0.of I hi (by show 2 <= stg hw; omega);obtain ⟨l,hK⟩ := a4 w ⟨st,hat⟩;obtain ⟨sy',I'⟩ := I.syncW (g' := nx w) (h' := hw) (fn := fn) (pos := pos) (es := #[]) hi hne rfl rfl (fun e he => by simp at he) (aside_refl w) (.lib hk (by omega) (by omega) (by rw [hs,hd]; exact l)) (by rw [hd]; rfl) (fun h6 => by rw [ofEvents_nil,Array.append_empty]; exact t3 (by omega)) ⟨st,0,hat,m.same hi (.inl rfl)⟩;exact ⟨_,hw,w,#[],sy',hK,a3 w ⟨st,hat⟩,I',fun _ _ => .inl ⟨st,hat⟩⟩
 | rel nx a3 a4 =>
  obtain ⟨st,hat,m⟩ := W0.of I hi (by show 2 <= stg hw; omega);obtain ⟨l,hK⟩ := a4 w ⟨st,hat⟩;obtain ⟨sy',I'⟩ := I.syncW (g' := nx w) (h' := hw.to 6 0) (fn := fn) (pos := pos) (es := #[Go.ConcR.mk (.releaseMerge (stA Wg))]) hi hne rfl rfl (fun e he => by
    rw [Array.mem_singleton] at he; subst he; exact .inr (.inr (.inl ⟨_,rfl⟩))) (aside_refl w) (.libTo hk (by omega) (by omega) l) (by rw [hd,LH.dp_to]; rfl)
   (fun _ => I.mem.ti.rel (fun k hk => hk.2) (by rw [t1]) fn pos) ⟨st,0,hat,m.same hi (.inr ⟨by show 5 <= stg hw; omega,by show stg hw <= 7; omega,by rw [stg_to hne]; omega,by rw [stg_to hne]; omega⟩)⟩
  exact ⟨_,_,w,_,sy',hK,a3 w ⟨st,hat⟩,I',fun _ _ => .inl ⟨st,hat⟩⟩
 | dis nx a3 a4 =>
  obtain ⟨st,hat,m⟩ := W0.of I hi (by show 2 <= stg hw; omega);obtain ⟨l,hK⟩ := a4 w ⟨st,hat⟩;have hE:∀ e ∈ (#[Go.ConcR.mk .disable]:Array Event),LibE Wg (i + 1) e := fun e he => by rw [Array.mem_singleton] at he; subst he; exact .inl rfl
  obtain ⟨sy',I'⟩ := I.syncW (g' := nx w) (h' := hw.to 5 1) (fn := fn) (pos := pos) (es := #[Go.ConcR.mk .disable]) hi hne rfl rfl hE (aside_refl w) (.libTo hk (by omega) (by omega) l) (by rw [hd,LH.dp_to]; rfl)
   (fun _ => (t3 (by omega)).own fn pos _ (fun j e he => .inl (by
    have := Array.mem_of_getElem? he;rw [Array.mem_singleton] at this; subst this; rfl)) (sp _ hE)) ⟨st,0,hat,m.same hi (.inr ⟨by show 5 <= stg hw; omega,by show stg hw <= 7; omega,by rw [stg_to hne]; omega,by rw [stg_to hne]; omega⟩)⟩
  exact ⟨_,_,w,_,sy',hK,a3 w ⟨st,hat⟩,I',fun _ _ => .inl ⟨st,hat⟩⟩
 | add nx a3 a4 a5 =>
  obtain ⟨st,hat,m⟩ := W0.of I hi (by show 2 <= stg hw; omega);have hcount := I.count;have hE:∀ e ∈ (#[rd (stA Wg),wr (stA Wg)]:Array Event),LibE Wg (i + 1) e := fun e he => by
   simp only [List.mem_toArray,List.mem_cons,List.not_mem_nil,or_false] at he;rcases he with rfl | rfl
   ·exact .inr (.inr (.inr (.inr (.inl ⟨_,_,rfl,rfl⟩))))
   ·exact .inr (.inr (.inr (.inr (.inl ⟨_,_,rfl,rfl⟩))))
  have hR:Rel (t ++ MemOp.ofEvents (i + 1) fn pos #[rd (stA Wg),wr (stA Wg)]) (i + 1) (stA Wg) (ownC (cellsOf h ws) C (i + 1)) := (t3 (by omega)).own fn pos _ (fun j e he => .inr (by
   have hm := Array.mem_of_getElem? he;simp only [List.mem_toArray,List.mem_cons,List.not_mem_nil,or_false] at hm;refine ⟨?_,?_⟩
   ·rcases hm with rfl | rfl
    ·exact ⟨_,_,rfl⟩
    ·exact ⟨_,_,rfl⟩
   ·rw [t1,deafBehind_none]
    ·omega
    ·intro e' he';have he'':e' ∈ (#[rd (stA Wg),wr (stA Wg)]:Array Event) := by
      obtain ⟨k,hk'⟩ := Array.getElem?_of_mem he';rw [Array.getElem?_extract] at hk';split at hk'
      ·exact Array.mem_of_getElem? hk'
      ·cases hk'
     simp only [List.mem_toArray,List.mem_cons,List.not_mem_nil,or_false] at he'';rcases he'' with rfl | rfl <;> exact ⟨nofun,nofun⟩)) (sp _ hE)
  have hcnt:cntW hw = 1 := by unfold cntW; rw [hsg]; rfl
  have hVpos:1 <= Vw ws := by have := le_Vw hi; rw [hcnt] at this; exact this
  have key:∀ v wt:Nat,wt <= 1 -> v < 2147483647 -> st = ((v:Int) + 1) * KK + (wt:Int) -> (¬ (v = 0 /\ wt = 1) -> Mode (ws.set i (nx v wt w,hw.to 1 1)) md ((v:Int) * KK + (wt:Int)) 0) -> ((v = 0 /\ wt = 1) -> Mode (ws.set i (nx v wt w,hw.to 4 1)) md ((v:Int) * KK + (wt:Int)) 0) ->
    ∃ g' h' w' es sy',K g' h' /\ stepG P false gw w = .go g' w' es /\ InvW P ty C Wg md d sy' n0 w0 ps h (ws.set i (g',h')) w' (t ++ MemOp.ofEvents (i + 1) fn pos es) /\ (∀ st,WgAt ty Wg w st 0 -> (∃ st',WgAt ty Wg w' st' 0) \/ (mayWake P gw = true /\ (g'.status = .running \/ g'.status = .finished))) := by
   intro v wt b1 b2 e m1 m2;rw [e] at hat;have hat' := hat.setSt ((v:Int) * KK + (wt:Int));by_cases e0:v = 0 /\ wt = 1
   ·obtain ⟨l,hK⟩ := a4 v wt w b1 b2 hat e0;obtain ⟨sy',I'⟩ := I.syncW (g' := nx v wt w) (h' := hw.to 4 1) (fn := fn) (pos := pos) (es := #[rd (stA Wg),wr (stA Wg)]) hi hne rfl rfl hE (aside_setCell w (stA Wg) _) (.libTo hk (by omega) (by omega) l) (by rw [hd,LH.dp_to]; rfl) (fun _ => hR) ⟨_,0,hat',m2 e0⟩;exact ⟨_,_,_,_,sy',hK,a3 v wt w b1 b2 hat,I',fun _ _ => .inl ⟨_,hat'⟩⟩
   ·obtain ⟨l,hK⟩ := a5 v wt w b1 b2 hat e0;obtain ⟨sy',I'⟩ := I.syncW (g' := nx v wt w) (h' := hw.to 1 1) (fn := fn) (pos := pos) (es := #[rd (stA Wg),wr (stA Wg)]) hi hne rfl rfl hE (aside_setCell w (stA Wg) _) (.libTo hk (by omega) (by omega) l) (by rw [hd,LH.dp_to]; rfl) (fun _ => hR) ⟨_,0,hat',m1 e0⟩;exact ⟨_,_,_,_,sy',hK,a3 v wt w b1 b2 hat,I',fun _ _ => .inl ⟨_,hat'⟩⟩
  have setV:∀ g',Vw (ws.set i (g',hw.to 1 1)) = Vw ws - 1 := fun g' => by
   have := Vw_set ws i _ (g',hw.to 1 1) hi;have e1:cntW (hw.to 1 1) = 0 := by unfold cntW; rw [stg_to hne]; rfl
   simp only at this; rw [hcnt,e1] at this; omega
  have setC:Calm ws -> ∀ g',Calm (ws.set i (g',hw.to 1 1)) := fun hc g' z hz => by
   rcases List.mem_or_eq_of_mem_set hz with hz | rfl
   ·exact hc z hz
   ·right; left; exact stg_to hne _ _
  cases m with
  | @opn k p a b c =>
   refine key (Vw ws - 1 + p) 0 (by omega) (by omega) ?_ (fun _ => ?_) (fun e => absurd e.2 (by omega))
   ·simp only [KK]; omega
   ·have := Mode.opn (p := p) (k := k) (setC a (nx (Vw ws - 1 + p) 0 w)) (by rw [setV]; omega) c;rw [setV] at this;have e:(((Vw ws - 1:Nat):Int) + (p:Int)) * KK = (((Vw ws - 1 + p:Nat):Int)) * KK + ((0:Nat):Int) := by simp
    rw [<- e]; exact this
  | reg a b =>
   refine key (Vw ws - 1) 1 (by omega) (by omega) ?_ (fun e => ?_) (fun e => ?_)
   ·simp only [KK]; omega
   ·have := Mode.reg (setC a (nx (Vw ws - 1) 1 w)) (by rw [setV]; omega);rw [setV] at this; exact this
   ·rw [show ((Vw ws - 1:Nat):Int) * KK + ((1:Nat):Int) = 1 by rw [e.1]; simp];refine Mode.toLast hlt (.inl ⟨.inl (stg_to hne _ _),rfl⟩) fun j z hz hj => ?_;have hc := a z (List.mem_of_getElem? hz);rcases Nat.lt_or_ge (stg z.2) 5 with h5 | h5
    ·omega
    ·exfalso
     -- two are counted
     have h2 := Vw_set ws i _ (gw,hw.to 1 1) hi;have e1:cntW (hw.to 1 1) = 0 := by unfold cntW; rw [stg_to hne]; rfl
     simp only at h2; rw [hcnt,e1] at h2;have h3 := le_Vw (ws := ws.set i (gw,hw.to 1 1)) (i := j) (x := z) (by rw [List.getElem?_set_ne (fun e => hj e.symm)]; exact hz);have e2:cntW z.2 = 1 := by unfold cntW; rw [if_pos h5]
     rw [e2] at h3; omega
  | @last i' x' st a b c =>
   exfalso;by_cases e:i' = i
   ·subst e; rw [hi] at a; cases a;rcases b with ⟨b | b,_⟩ | ⟨b,_⟩ <;> (simp only at b; omega)
   ·have := c i _ hi (fun e' => e e'.symm); simp only at this; omega
  | fin a => have := a _ (List.mem_of_getElem? hi); simp only at this; omega
 | load nx a3 a4 =>
  obtain ⟨st,hat,m⟩ := W0.of I hi (by show 2 <= stg hw; omega);obtain ⟨hmd,_,_,e2,hothers⟩ := m.isLast hi (by show 2 <= stg hw; omega) (by show stg hw <= 4; omega);have e := e2 (by show stg hw ≠ 2; omega);subst e;obtain ⟨l,hK⟩ := a4 w hat;have hE:∀ e ∈ (#[rd (stA Wg)]:Array Event),LibE Wg (i + 1) e := fun e he => by rw [Array.mem_singleton] at he; subst he; exact .inr (.inr (.inr (.inr (.inl ⟨_,_,rfl,rfl⟩))))
  obtain ⟨sy',I'⟩ := I.syncW (g' := nx w) (h' := hw.to 3 1) (fn := fn) (pos := pos) (es := #[rd (stA Wg)]) hi hne rfl rfl hE (aside_refl w) (.libTo hk (by omega) (by omega) l) (by rw [hd,LH.dp_to]; rfl)
   (fun _ => (t3 (by omega)).own fn pos _ (fun j e he => .inr (by
    obtain ⟨hj,rfl⟩ := Array.getElem?_eq_some_iff.1 he;have hj0:j = 0 := by simpa using hj
    subst hj0;exact ⟨⟨_,_,rfl⟩,by rw [t1]; simp [deafBehind]⟩)) (sp _ hE)) ⟨1,0,hat,by rw [hmd]; exact Mode.toLast hlt (.inl ⟨.inr (stg_to hne _ _),rfl⟩) hothers⟩
  exact ⟨_,_,w,_,sy',hK,a3 w hat,I',fun _ _ => .inl ⟨_,hat⟩⟩
 | store nx a3 a4 =>
  obtain ⟨st,hat,m⟩ := W0.of I hi (by show 2 <= stg hw; omega);obtain ⟨hmd,_,_,e2,hothers⟩ := m.isLast hi (by show 2 <= stg hw; omega) (by show stg hw <= 4; omega);have e := e2 (by show stg hw ≠ 2; omega);subst e;obtain ⟨l,hK⟩ := a4 w hat;have hE:∀ e ∈ (#[wr (stA Wg)]:Array Event),LibE Wg (i + 1) e := fun e he => by rw [Array.mem_singleton] at he; subst he; exact .inr (.inr (.inr (.inr (.inl ⟨_,_,rfl,rfl⟩))))
  have hat' := hat.setSt 0;obtain ⟨sy',I'⟩ := I.syncW (g' := nx w) (h' := hw.to 2 1) (fn := fn) (pos := pos) (es := #[wr (stA Wg)]) hi hne rfl rfl hE (aside_setCell w (stA Wg) _) (.libTo hk (by omega) (by omega) l) (by rw [hd,LH.dp_to]; rfl)
   (fun _ => (t3 (by omega)).own fn pos _ (fun j e he => .inr (by
    obtain ⟨hj,rfl⟩ := Array.getElem?_eq_some_iff.1 he;have hj0:j = 0 := by simpa using hj
    subst hj0;exact ⟨⟨_,_,rfl⟩,by rw [t1]; simp [deafBehind]⟩)) (sp _ hE)) ⟨0,0,hat',by rw [hmd]; exact Mode.toLast hlt (.inr ⟨stg_to hne _ _,rfl⟩) hothers⟩
  exact ⟨_,_,_,_,sy',hK,a3 w hat,I',fun _ _ => .inl ⟨_,hat'⟩⟩
 | sem nx a0 a3 a4 =>
  obtain ⟨st,hat,m⟩ := W0.of I hi (by show 2 <= stg hw; omega);obtain ⟨hmd,_,e1,_,hothers⟩ := m.isLast hi (by show 2 <= stg hw; omega) (by show stg hw <= 4; omega);have e := e1 (by show stg hw = 2; omega);subst e;obtain ⟨l,hK⟩ := a4 w hat;have hE:∀ e ∈ semEvents (smA Wg),LibE Wg (i + 1) e := fun e he => by
   simp only [semEvents,List.mem_toArray,List.mem_cons,List.not_mem_nil,or_false] at he;rcases he with rfl | rfl | rfl | rfl
   ·exact .inl rfl
   ·exact .inr (.inr (.inr (.inr (.inl ⟨_,_,rfl,rfl⟩))))
   ·exact .inr (.inr (.inr (.inr (.inl ⟨_,_,rfl,rfl⟩))))
   ·exact .inr (.inl rfl)
  have hat' := hat.setSm 1;obtain ⟨sy',I'⟩ := I.syncW (g' := nx w) (h' := hw.to 1 1) (fn := fn) (pos := pos) (es := semEvents (smA Wg)) hi hne rfl rfl hE (aside_setCell w (smA Wg) _) (.libTo hk (by omega) (by omega) l) (by rw [hd,LH.dp_to]; rfl)
   (fun _ => (t3 (by omega)).own fn pos _ (fun j e he => by
    obtain ⟨hj,rfl⟩ := Array.getElem?_eq_some_iff.1 he;have hj4:j < 4 := by simpa [semEvents] using hj
    rw [t1];rcases j with _ | _ | _ | _ | j
    ·exact .inl rfl
    ·exact .inr ⟨⟨_,_,rfl⟩,by rw [show deafBehind 1 ((semEvents (smA Wg)).extract 0 (0 + 1)) = 2 from rfl]; omega⟩
    ·exact .inr ⟨⟨_,_,rfl⟩,by rw [show deafBehind 1 ((semEvents (smA Wg)).extract 0 (0 + 1 + 1)) = 2 from rfl]; omega⟩
    ·exact .inl rfl
    ·omega) (sp _ hE)) ⟨0,1,hat',by
     rw [hmd];refine .sema fun z hz => ?_;obtain ⟨j,hj⟩ := List.getElem?_of_mem hz;rcases set_some hj with ⟨rfl,rfl⟩ | ⟨hne',hj⟩
     ·rw [stg_to hne]; omega
     ·exact hothers j z hj hne'⟩
  exact ⟨_,_,_,_,sy',hK,a3 w hat,I',fun _ _ => .inr ⟨a0,l.status⟩⟩
 | @quit n dd' gg g' hh es a1 a2 a3 a4 =>
  obtain ⟨st,sm,hat,m⟩ := I.mode;have hE:∀ e ∈ es,LibE Wg (i + 1) e := fun e he => by
   have := a1 e he;obtain ⟨loc,wr',s'⟩ := e;unfold Event.mute at this;split at this
   ·rename_i hh; cases hh; exact .inl rfl
   ·rename_i hh; cases hh; exact .inr (.inl rfl)
   ·cases this
  obtain ⟨sy',I'⟩ := I.syncW (g' := g') (h' := hw.to 1 (deafBehind dd es)) (fn := fn) (pos := pos) (es := es) hi hne rfl rfl hE (aside_refl w) (.libTo hk (by omega) (by omega) (.quit a3)) (by rw [hd,LH.dp_to])
   (fun _ => (t3 (by omega)).own fn pos _ (fun j e he => .inl (touch_mute (a1 e (Array.mem_of_getElem? he)))) (sp _ hE)) ⟨st,sm,hat,m.same hi (.inl (by rw [stg_to hne]; exact hsg.symm))⟩
  exact ⟨_,_,w,_,sy',a4,a2 w,I',fun st' h' => .inl ⟨st',h'⟩⟩
theorem crew_map' {g:Goroutine} {ws:Crew} {f:Goroutine -> Goroutine} (hw:∀ x ∈ ws,f x.1 = x.1):(crew g ws).map f = crew (f g) ws := by
 unfold crew;simp only [List.map_toArray,List.map_cons,List.map_map];congr 2;exact List.map_congr_left hw
theorem worker_stepW (I:InvW P ty C Wg md d sy n0 w0 ps h ws w t) {gm:Goroutine} {i:Nat} {gw:Goroutine} {hw:LH} (hi:ws[i]? = some (gw,hw)) (hrun:gw.status = .running) {K:Goroutine -> LH -> Prop} (hm:MovesW P ty Wg C gw hw K) :
  ∃ g' h' w' ops sy',K g' h' /\ runT P (crowd (crew gm ws) w sl) (i + 1) = (.next (crowd (crew (woken P gw g' w' gm) (ws.set i (g',h'))) w' sl),ops) /\
   InvW P ty C Wg md d sy' n0 w0 ps h (ws.set i (g',h')) w' (t ++ ops) /\ (∀ st,WgAt ty Wg w st 0 -> (∃ st',WgAt ty Wg w' st' 0) \/ (mayWake P gw = true /\ (g'.status = .running \/ g'.status = .finished))) := by
 have hget:(crew gm ws)[i + 1]? = some gw := by rw [crew_get,hi]; rfl
 have run:∀ {g':Goroutine} {w':World} {es:Array Event} (h':LH),stepG P false gw w = .go g' w' es ->
   runT P (crowd (crew gm ws) w sl) (i + 1) = (.next (crowd (crew (woken P gw g' w' gm) (ws.set i (g',h'))) w' sl),MemOp.ofEvents (i + 1) gw.frame.fn gw.frame.place es) := by
  intro g' w' es h' hs;rw [runT_crowd_go hget (by rw [show (i + 1 == 0) = false from rfl]; exact hs),crew_map',crew_set (woken P gw g' w' gm) ws i (g',h')];intro x hx;unfold woken;split
  ·exact again_running _ (I.st x hx).status
  ·rfl
 rcases hm with hf | ⟨_,⟨h0,n,g',es,a1,a2,a3,a4⟩ | ⟨hne,h7,hch,fr,cs,N,rfl,hs,hN⟩ | ⟨hk,h1,h7,hm⟩⟩
 ·rw [hf] at hrun; cases hrun
 ·exact ⟨g',_,w,_,sy,a4,run _ (a2 w),I.sayW hi h0 a1 _ _ a3,fun st h' => .inl ⟨st,h'⟩⟩
 ·have hci:cellsOf h ws (i + 1) = hw.get := by simp [cellsOf,hi]
  obtain ⟨g',w',es,h',b1,b2,b3,b4⟩ := hs w (by rw [<- hci]; exact I.mem.fits (i + 1));obtain ⟨⟨c1,c2,c3⟩,c4,c5⟩ := hN g' _ b4;have hwg:w'.heap[Wg]? = w.heap[Wg]? := b2.other Wg (I.mem.ti.spl Wg I.wg.1) (by
   rintro ⟨o,ho⟩;have := I.mem.off Wg I.wg.1 (i + 1);rw [hci,ho] at this; cases this)
  exact ⟨g',_,w',_,sy,c5,run _ b1,I.stepW (h' := { hw with get := h' }) (k' := h') hi hne h7 rfl rfl rfl rfl _ _ b2 b3 (.work hne h7 hch c4),fun st h' => .inl ⟨st,hwg.trans h'⟩⟩
 ·obtain ⟨g',h',w',es,sy',b1,b2,b3,b4⟩ := I.lib hi hk h1 h7 hm gw.frame.fn gw.frame.place;exact ⟨g',h',w',_,sy',b1,run _ b2,b3,b4⟩
def TopW (P:Program) (n0:Nat) (w0:World) (Φ:Value -> World -> Prop) (ty:TypeId) (C Wg:Nat) (md:MT) (d:Nat) (ps:List Script) (g:Goroutine) (h:LH):Prop :=
 ∀ sy ws w sl t,InvW P ty C Wg md d sy n0 w0 ps h ws w t -> EndsWell P Φ (crowd (crew g ws) w sl) t
theorem crew_awakeW {g:Goroutine} (hg:awake g) (hw:∀ x ∈ ws,WSt P ty Wg C x.1 x.2):∀ a ∈ crew g ws,awake a := by
 intro a ha;unfold crew at ha;simp only [List.mem_toArray,List.mem_cons,List.mem_map] at ha;rcases ha with rfl | ⟨x,hx,rfl⟩
 ·exact hg
 ·intro t e;rcases (hw x hx).status with h | h <;> rw [h] at e <;> cases e
theorem driveW {g:Goroutine} (hg:g.status = .running) (hmain:∀ sy ws w sl t,InvW P ty C Wg md d sy n0 w0 ps h ws w t -> ∃ m' ops,runT P (crowd (crew g ws) w sl) 0 = (.next m',ops) /\ EndsWell P Φ m' (t ++ ops)):TopW P n0 w0 Φ ty C Wg md d ps g h := by
 have hgm:∀ x x' w',woken P x x' w' g = g := fun x x' w' => by
  unfold woken; split
  ·exact again_running _ (.inl hg)
  ·rfl
 intro sy ws w sl t hI;have hS := SysW.all ws hI.st
 induction hS generalizing w sl t sy with
 | mk ws K hm hk ih =>
  obtain ⟨i,gi,k,sl',hget,hrun,hst⟩ := crowd_pick (P := P) (gs := crew g ws) (w := w) (sl := sl) (crew_awakeW (fun t e => by rw [hg] at e; cases e) hI.st) ⟨0,g,crew_get0 g ws,hg⟩;have I := hI.at k;cases i with
  | zero =>
   rw [crew_get0] at hget; cases hget;obtain ⟨m',ops,hr,he⟩ := hmain sy ws (w.at k) sl' t I;exact EndsWell.next (hst.trans hr) he
  | succ i =>
   rw [crew_get] at hget;cases hy:ws[i]? with
   | none => rw [hy] at hget; cases hget
   | some y =>
    rw [hy] at hget; cases hget;obtain ⟨gw,hw⟩ := y;have hlt:i < ws.length := (List.getElem?_eq_some_iff.1 hy).1;obtain ⟨g',h',w',ops,sy',hK,hr,I',_⟩ := worker_stepW (sl := sl') (gm := g) I hy hrun (hm i gw hw hy);rw [hgm] at hr;exact EndsWell.next (hst.trans hr) (ih i g' h' hlt hK _ _ _ _ I')
end
section
open Go Go.Conc
open Go.ConcR (KK wgBlock WgAt stA smA rd wr)
open Go.ConcN (WgLive)
open Go.Conc.Lib Go.RowKit
open WgW
variable {P:Program} {Φ:Value -> World -> Prop} {ty:TypeId} {C Wg:Nat} {md md':MT} {d d':Nat} {sy:Sy} {n0:Nat} {w0:World} {ps:List Script} {h:LH} {ws:Crew} {w:World} {t:Trace} {sl:Option (Nat × Nat)}
theorem InvW.live (I:InvW P ty C Wg md d sy n0 w0 ps h ws w t):WgLive ty Wg w := by
 obtain ⟨st,sm,h1,_⟩ := I.mode;exact ⟨st,sm,h1⟩
theorem main_go (hw:∀ x ∈ ws,WSt P ty Wg C x.1 x.2) {g g':Goroutine} {w':World} {es:Array Event} (hs:stepG P true g w = .go g' w' es) :
  runT P (crowd (crew g ws) w sl) 0 = (.next (crowd (crew g' ws) w' sl),MemOp.ofEvents 0 g.frame.fn g.frame.place es) := by
 rw [runT_crowd_go (crew_get0 g ws) hs,crew_map',crew_set0];intro x hx;unfold woken;split
 ·exact again_running _ (hw x hx).status
 ·rfl
theorem InvW.sync0 (I:InvW P ty C Wg md d sy n0 w0 ps h ws w t) {fn:FuncId} {pos:String} {es:Array Event} (hes:∀ e ∈ es,LibE Wg 0 e) {w':World} (hw':Aside Wg w w') (hD:deafBehind d es = d') (hmode:∃ st sm,WgAt ty Wg w' st sm /\ Mode ws md' st sm) :
  ∃ sy',InvW P ty C Wg md' d' sy' n0 w0 ps h ws w' (t ++ MemOp.ofEvents 0 fn pos es) := by
 have hS := syncOps (sy := sy) (fn := fn) (pos := pos) I.wg.2.2 hes;have hu:∀ op ∈ MemOp.ofEvents 0 fn pos es,op.g = 0 := fun op hop => (ofEvents_mem hop).1;have hCW:C ≠ Wg := fun e => by have := I.spC; rw [e] at this; exact this I.wg.1
 obtain ⟨nC,⟨cC,eC,fC,q1,q2⟩,q3⟩ := I.outC;refine ⟨sy.deafen 0 (Deaf (t ++ MemOp.ofEvents 0 fn pos es) 0),?_,I.wg,I.st,?_,I.pend,I.small,by rw [Deaf_own,I.deaf0]; exact hD,hmode,I.oldC,I.spC,nC,⟨cC,eC,fC,by rw [hw'.block C hCW]; exact q1,q2⟩,outC_app q3 (.syncO I.mem I.spC hS)⟩
 ·exact I.mem.sync (Nat.succ_pos _) (fun e => e) hS I.wg.1 I.wg.2.1 hw'.size hw'.block hw'.os hw'.tape hw'.output
 ·intro j x hx;obtain ⟨a1,a2⟩ := I.tr j x hx;exact ⟨by rw [Deaf_other t (Nat.succ_ne_zero j).symm _ hu]; exact a1,fun hne => ⟨(a2 hne).1,fun h6 => ((a2 hne).2 h6).other hu (Nat.succ_ne_zero j).symm (.sync I.mem hS)⟩⟩
theorem topW_sync {g:Goroutine} (hg:g.status = .running) (H:∀ (w:World) (st sm:Int) (ws:Crew),WgAt ty Wg w st sm -> Mode ws md st sm -> Vw ws < 2147483646 ->
  ∃ md' d' g' w' es,stepG P true g w = .go g' w' es /\ (∀ e ∈ es,LibE Wg 0 e) /\ Aside Wg w w' /\ deafBehind d es = d' /\ (∃ st' sm',WgAt ty Wg w' st' sm' /\ Mode ws md' st' sm') /\ TopW P n0 w0 Φ ty C Wg md' d' ps g' h):TopW P n0 w0 Φ ty C Wg md d ps g h := by
 refine driveW hg fun sy ws w sl t I => ?_;obtain ⟨st,sm,h1,h2⟩ := I.mode;obtain ⟨md',d',g',w',es,a1,a2,a3,a4,a5,a6⟩ := H w st sm ws h1 h2 I.count;obtain ⟨sy',I'⟩ := I.sync0 (fn := g.frame.fn) (pos := g.frame.place) a2 a3 a4 a5;exact ⟨_,_,main_go I.st a1,a6 _ _ _ _ _ I'⟩
theorem topW_idle {Stop:Goroutine -> World -> Prop} (K:∀ g,(∀ w,WgLive ty Wg w -> Stop g w) -> TopW P n0 w0 Φ ty C Wg md d ps g h):∀ (m:Nat) (g:Goroutine) (w:World),WgLive ty Wg w -> Goes P true (RM ty Wg) Go.ConcR.DC0 Stop m g w -> TopW P n0 w0 Φ ty C Wg md d ps g h := by
 intro m
 induction m with
 | zero => intro g w _ hG; exact K g fun w₁ h₁ => hG w₁ fun _ => h₁
 | succ m ih =>
  intro g w _ hG;rcases hG with hG | ⟨hr,hG⟩
  ·exact K g fun w₁ h₁ => hG w₁ fun _ => h₁
  ·refine topW_sync hr fun w₁ st sm ws h1 h2 _ => ?_;have hl:WgLive ty Wg w₁ := ⟨st,sm,h1⟩
   obtain ⟨g',w',es,a1,⟨a2,a3⟩,a4⟩ := goes_elim (hG w₁ fun _ => hl);subst a2 a3;exact ⟨md,d,g',w',#[],a1,fun e he => by simp at he,aside_refl w',rfl,⟨st,sm,h1,h2⟩,ih g' w' hl a4⟩
theorem topW_mark {m:Mark} {Next:Goroutine -> World -> Prop} (hE:LibE Wg 0 (Go.ConcR.mk m)) (hd:deafBehind d #[Go.ConcR.mk m] = d') {g:Goroutine} (hA:∀ w,WgLive ty Wg w -> AtMark P m Next g w) (hl:∃ w,WgLive ty Wg w)
  (K:∀ g' w,WgLive ty Wg w -> Next g' w -> TopW P n0 w0 Φ ty C Wg md d' ps g' h):TopW P n0 w0 Φ ty C Wg md d ps g h := by
 obtain ⟨w₀,hl⟩ := hl;refine topW_sync (hA w₀ hl).1 fun w st sm ws h1 h2 _ => ?_;obtain ⟨_,g',a1,a2⟩ := hA w ⟨st,sm,h1⟩;exact ⟨md,d',g',w,_,a1,fun e he => by rw [Array.mem_singleton] at he; subst he; exact hE,aside_refl w,hd,⟨st,sm,h1,h2⟩,K g' w ⟨st,sm,h1⟩ a2⟩
theorem libE_cells {g:Nat}:∀ e ∈ (#[rd (stA Wg),wr (stA Wg)]:Array Event),LibE Wg g e := fun e he => by
 simp only [List.mem_toArray,List.mem_cons,List.not_mem_nil,or_false] at he;rcases he with rfl | rfl
 ·exact .inr (.inr (.inr (.inr (.inl ⟨_,_,rfl,rfl⟩))))
 ·exact .inr (.inr (.inr (.inr (.inl ⟨_,_,rfl,rfl⟩))))
theorem libE_rd {g:Nat}:∀ e ∈ (#[rd (stA Wg)]:Array Event),LibE Wg g e := fun e he => by
 rw [Array.mem_singleton] at he; subst he; exact .inr (.inr (.inr (.inr (.inl ⟨_,_,rfl,rfl⟩))))
theorem libE_sem {g:Nat}:∀ e ∈ semEvents (smA Wg),LibE Wg g e := fun e he => by
 simp only [semEvents,List.mem_toArray,List.mem_cons,List.not_mem_nil,or_false] at he;rcases he with rfl | rfl | rfl | rfl
 ·exact .inl rfl
 ·exact .inr (.inr (.inr (.inr (.inl ⟨_,_,rfl,rfl⟩))))
 ·exact .inr (.inr (.inr (.inr (.inl ⟨_,_,rfl,rfl⟩))))
 ·exact .inr (.inl rfl)
theorem topW_add1 {k:Nat} {Next:Nat -> Goroutine -> World -> Prop} {g:Goroutine} (hA:∀ w,WgLive ty Wg w -> AtAdd1 P ty Wg Next g w) (hl:∃ w,WgLive ty Wg w)
  (K:∀ v g' w,WgLive ty Wg w -> Next (v + 1) g' w -> TopW P n0 w0 Φ ty C Wg (.opn k 1) 1 ps g' h):TopW P n0 w0 Φ ty C Wg (.opn k 0) 1 ps g h := by
 obtain ⟨w₀,hl⟩ := hl;refine topW_sync (hA w₀ hl).1 fun w st sm ws h1 h2 hV => ?_;obtain ⟨_,hA⟩ := hA w ⟨st,sm,h1⟩;cases h2 with
 | opn a b c =>
  have e:((Vw ws:Int) + ((0:Nat):Int)) * KK = (Vw ws:Int) * KK := by simp
  rw [e] at h1;obtain ⟨g',a1,a2⟩ := hA (Vw ws) (by omega) h1;have h1' := h1.setSt (((Vw ws:Int) + 1) * KK);exact ⟨_,1,g',_,_,a1,libE_cells,aside_setCell w (stA Wg) _,rfl,⟨_,0,h1',.opn (p := 1) a b (by omega)⟩,K _ g' _ ⟨_,_,h1'⟩ a2⟩
theorem topW_addW {L:WgLink} (H:WgLib P L) {cs:List Frame} {k:Nat} (hl:∃ w,WgLive L.tWg Wg w) {g:Goroutine}
  (hA:∀ w,WgLive L.tWg Wg w -> Idle P L.tWg Wg (AtMark P .disable (Idle P L.tWg Wg (AtAdd1 P L.tWg Wg fun v g w =>
   (v = 1 -> Idle P L.tWg Wg (AtMark P (.read (smA Wg)) (Idle P L.tWg Wg (AtEn P L.tWg Wg cs L.add))) g w) /\
   (v ≠ 1 -> Idle P L.tWg Wg (AtEn P L.tWg Wg cs L.add) g w)))) g w)
  (K:∀ g,RetOf L.add cs g -> TopW P n0 w0 Φ L.tWg C Wg (.opn k 1) 0 ps g h):TopW P n0 w0 Φ L.tWg C Wg (.opn k 0) 0 ps g h := by
 obtain ⟨w₀,hl₀⟩ := hl;have hl:∃ w,WgLive L.tWg Wg w := ⟨w₀,hl₀⟩
 have en:∀ g w,WgLive L.tWg Wg w -> Idle P L.tWg Wg (AtEn P L.tWg Wg cs L.add) g w -> TopW P n0 w0 Φ L.tWg C Wg (.opn k 1) 1 ps g h := by
  rintro g w hw ⟨m,hG⟩;refine topW_idle (fun g hE => ?_) m g w hw hG;refine topW_mark (m := .enable) (.inr (.inl rfl)) rfl hE hl fun g' w' hw' hN => ?_;obtain ⟨m',hG'⟩ := hN;exact topW_idle (fun g hE => K g (hE w₀ hl₀)) m' g' w' hw' hG'
 obtain ⟨m,hG⟩ := hA w₀ hl₀;refine topW_idle (fun g hE => ?_) m g w₀ hl₀ hG;refine topW_mark (m := .disable) (.inl rfl) rfl hE hl fun g' w' hw' hN => ?_;obtain ⟨m',hG'⟩ := hN;refine topW_idle (fun g hE => ?_) m' g' w' hw' hG';refine topW_add1 hE hl fun v g' w' hw' hN => ?_;by_cases e:v + 1 = 1
 ·obtain ⟨m2,hG2⟩ := hN.1 e;refine topW_idle (fun g hE => ?_) m2 g' w' hw' hG2;exact topW_mark (m := .read (smA Wg)) (.inr (.inr (.inr (.inr (.inr ⟨rfl,_,.inl rfl,rfl⟩))))) rfl hE hl fun g'' w'' hw'' hN => en g'' w'' hw'' hN
 ·exact en g' w' hw' (hN.2 e)
theorem WSt.running {g:Goroutine} {h:LH} (a:WSt P ty Wg C g h) (h2:2 <= stg h):g.status = .running := by
 have life:∀ {s d:Nat} {g:Goroutine},Life P ty Wg s d g -> 2 <= s -> g.status = .running := by
  intro s d g l hs;cases l with
  | quit _ => omega
  | _ => assumption
 cases a with
 | old h0 _ => unfold stg at h2; rw [h0] at h2; simp at h2
 | work _ _ _ hw =>
  cases hw with
  | work _ _ => rfl
  | done _ l => exact life l (by omega)
 | lib hk h1 h7 l => exact life l (by rw [<- stg_ne hk.ne]; exact h2)
theorem topW_sem {Next:Goroutine -> World -> Prop} {g:Goroutine} (hA:∀ w,WgLive ty Wg w -> AtSem P ty Wg Next g w) (hl:∃ w,WgLive ty Wg w) (K:∀ g' w,WgLive ty Wg w -> Next g' w -> TopW P n0 w0 Φ ty C Wg .fin 1 ps g' h):TopW P n0 w0 Φ ty C Wg .reg 1 ps g h := by
 obtain ⟨w₀,hl⟩ := hl;obtain ⟨hg,hoff,_⟩ := hA w₀ hl;have hagain:∀ w',({ g with status := .blocked }:Goroutine).again w' = g := by
  intro w';obtain ⟨x1,x2,x3,x4,x5⟩ := g;simp only at hg hoff;subst hg hoff;rfl
 have hblk:∀ x x' w',woken P x x' w' ({ g with status := .blocked }:Goroutine) = { g with status := .blocked } \/ woken P x x' w' ({ g with status := .blocked }:Goroutine) = g := by
  intro x x' w';unfold woken;split
  ·exact .inr (hagain w')
  ·exact .inl rfl
 have hgm:∀ x x' w',woken P x x' w' g = g := fun x x' w' => by
  unfold woken; split
  ·exact again_running _ (.inl hg)
  ·rfl
 have main:∀ ws,SysW P ty Wg C ws -> (∀ sy w sl t,InvW P ty C Wg .reg 1 sy n0 w0 ps h ws w t -> EndsWell P Φ (crowd (crew g ws) w sl) t) /\
   (∀ sy w sl t,InvW P ty C Wg .reg 1 sy n0 w0 ps h ws w t -> (∃ st,WgAt ty Wg w st 0) -> EndsWell P Φ (crowd (crew { g with status := .blocked } ws) w sl) t) := by
  intro ws hS
  induction hS with
  | mk ws K' hm hk ih =>
   have hB:∀ sy w sl t,InvW P ty C Wg .reg 1 sy n0 w0 ps h ws w t -> (∃ st,WgAt ty Wg w st 0) -> EndsWell P Φ (crowd (crew { g with status := .blocked } ws) w sl) t := by
    intro sy w sl t hI ⟨st,hst⟩;obtain ⟨j,x,hj,h2⟩ : ∃ (j:Nat) (x:Goroutine × LH),ws[j]? = some x /\ 2 <= stg x.2 := by
     obtain ⟨st',sm,h1,h2⟩ := hI.mode;cases h2 with
     | reg a b => obtain ⟨i,x,h3,h4⟩ := Vw_pos b; exact ⟨i,x,h3,by omega⟩
     | @last i x st a b c => exact ⟨i,x,a,by omega⟩
     | sema a => obtain ⟨_,e⟩ := h1.unique hst; cases e
    have hrj:x.1.status = .running := (hI.st x (List.mem_of_getElem? hj)).running h2;obtain ⟨i,gi,k,sl',hget,hrun,hstp⟩ := crowd_pick (P := P) (gs := crew { g with status := .blocked } ws) (w := w) (sl := sl) (crew_awakeW (fun t e => by cases e) hI.st) ⟨j + 1,x.1,by rw [crew_get,hj]; rfl,hrj⟩;have I := hI.at k;cases i with
    | zero => rw [crew_get0] at hget; cases hget; cases hrun
    | succ i =>
     rw [crew_get] at hget;cases hy:ws[i]? with
     | none => rw [hy] at hget; cases hget
     | some y =>
      rw [hy] at hget; cases hget;obtain ⟨gw,hw⟩ := y;have hlt:i < ws.length := (List.getElem?_eq_some_iff.1 hy).1;obtain ⟨g',h',w',ops,sy',hK,hr,I',hsem⟩ := worker_stepW (sl := sl') (gm := { g with status := .blocked }) I hy hrun (hm i gw hw hy);refine EndsWell.next (hstp.trans hr) ?_;rcases hsem st hst with h0 | ⟨hmw,hs'⟩
      ·rcases hblk gw g' w' with e | e
       ·rw [e]; exact (ih i g' h' hlt hK).2 _ _ _ _ I' h0
       ·rw [e]; exact (ih i g' h' hlt hK).1 _ _ _ _ I'
      ·have e:woken P gw g' w' ({ g with status := .blocked }:Goroutine) = g := by
        unfold woken;rw [if_pos]
        ·exact hagain w'
        ·rw [hmw]; rcases hs' with e | e <;> rw [e] <;> rfl
       rw [e]; exact (ih i g' h' hlt hK).1 _ _ _ _ I'
   refine ⟨fun sy w sl t hI => ?_,hB⟩;obtain ⟨i,gi,k,sl',hget,hrun,hstp⟩ := crowd_pick (P := P) (gs := crew g ws) (w := w) (sl := sl) (crew_awakeW (fun t e => by rw [hg] at e; cases e) hI.st) ⟨0,g,crew_get0 g ws,hg⟩;have I := hI.at k;cases i with
   | zero =>
    rw [crew_get0] at hget; cases hget;obtain ⟨st,sm,h1,h2⟩ := I.mode;obtain ⟨_,_,a1,a2⟩ := hA _ I.live;by_cases e:sm = 0
    ·subst e;refine EndsWell.next (hstp.trans (main_go I.st (a1 ⟨st,h1⟩))) ?_;rw [ofEvents_nil,Array.append_empty];exact hB _ _ _ _ I ⟨st,h1⟩
    ·cases h2 with
     | sema a =>
      obtain ⟨g',b1,b2⟩ := a2 h1;have h1' := h1.setSm 0;obtain ⟨sy',I'⟩ := I.sync0 (fn := g.frame.fn) (pos := g.frame.place) (d' := 1) (md' := .fin) libE_sem (aside_setCell _ (smA Wg) _) rfl ⟨0,0,h1',.fin a⟩;exact EndsWell.next (hstp.trans (main_go I.st b1)) (K g' _ ⟨_,_,h1'⟩ b2 _ _ _ _ _ I')
     | reg a b => exact absurd rfl e
     | last a b c => exact absurd rfl e
   | succ i =>
    rw [crew_get] at hget;cases hy:ws[i]? with
    | none => rw [hy] at hget; cases hget
    | some y =>
     rw [hy] at hget; cases hget;obtain ⟨gw,hw⟩ := y;have hlt:i < ws.length := (List.getElem?_eq_some_iff.1 hy).1;obtain ⟨g',h',w',ops,sy',hK,hr,I',_⟩ := worker_stepW (sl := sl') (gm := g) I hy hrun (hm i gw hw hy);rw [hgm] at hr;exact EndsWell.next (hstp.trans hr) ((ih i g' h' hlt hK).1 _ _ _ _ I')
 intro sy ws w sl t hI;exact (main ws (SysW.all ws hI.st)).1 sy w sl t hI
theorem topW_step {fr:Frame} {cs:List Frame} {N:Goroutine -> LH -> Prop} (hs:LStep P true (G fr cs) h N) (hN:∀ g' h',N g' h' -> TopW P n0 w0 Φ ty C Wg md d ps g' h'):TopW P n0 w0 Φ ty C Wg md d ps (G fr cs) h := by
 refine driveW rfl fun sy ws w sl t I => ?_;obtain ⟨g',w',es,k',hgo,tr,hes,hn⟩ := hs w (I.mem.fits 0);refine ⟨_,_,main_go I.st hgo,hN g' _ hn sy ws w' sl _ ?_⟩;obtain ⟨hm,hsp⟩ := I.mem.step (j := 0) (Nat.succ_pos _) (fun e => e) (G fr cs).frame.fn (G fr cs).frame.place tr hes;have hu:∀ op ∈ MemOp.ofEvents 0 (G fr cs).frame.fn (G fr cs).frame.place es,op.g = 0 := fun op hop => (ofEvents_mem hop).1;rw [cellsOf_main h ws k' h.chans h.pend h.todo] at hm;obtain ⟨nC,hnC,q3⟩ := I.outC;obtain ⟨st,sm,m1,m2⟩ := I.mode;refine ⟨hm,I.wg,I.st,?_,I.pend,I.small,?_,⟨st,sm,(hsp Wg I.wg.1).trans m1,m2⟩,I.oldC,I.spC,nC,sizeC I.mem (g := 0) hnC tr,outC_app q3 (.stepO (w' := w') I.mem (g := 0) hnC hes)⟩
 ·intro j x hx;obtain ⟨a1,a2⟩ := I.tr j x hx;refine ⟨by rw [Deaf_other t (Nat.succ_ne_zero j).symm _ hu]; exact a1,fun hne => ⟨(a2 hne).1,fun h6 => ?_⟩⟩;exact ((a2 hne).2 h6).other hu (Nat.succ_ne_zero j).symm (.step (w' := w') I.mem (Nat.succ_ne_zero j).symm (h' := k') hes)
 ·rw [Deaf_own,deafBehind_none]
  ·exact I.deaf0
  ·intro e he;have := hes e he;unfold EvOk at this;refine ⟨fun hl => ?_,fun hl => ?_⟩ <;> (rw [hl] at this; cases this)
end
section
open Go Go.Conc
open Go.ConcR (KK wgBlock WgAt stA smA rd wr)
open Go.ConcN (WgLive)
open Go.Conc.Lib Go.RowKit
open WgW
variable {P:Program} {Φ:Value -> World -> Prop} {ty:TypeId} {C Wg:Nat} {md md':MT} {d d':Nat} {sy:Sy} {n0:Nat} {w0:World} {ps:List Script} {h:LH} {ws:Crew} {w:World} {t:Trace} {sl:Option (Nat × Nat)}
theorem Deaf_none {t:Trace} {g:Nat} (h:∀ op ∈ t,op.g ≠ g):Deaf t g = 0 := by
 obtain ⟨l⟩ := t;have e := Deaf_append #[] g l;rw [show (#[]:Trace) ++ l.toArray = l.toArray by simp] at e;have h':∀ op ∈ l,op.g ≠ g := fun op hop => h op (by simpa using hop);have e0:Deaf (#[]:Trace) g = 0 := rfl;rw [show (⟨l⟩ : Trace) = l.toArray from rfl,e,e0];clear e e0 h
 induction l with
 | nil => rfl
 | cons a l ih =>
  have ha:a.g ≠ g := h' a List.mem_cons_self;rw [List.foldl_cons];have e1:deafStep g 0 a = 0 := by unfold deafStep; split <;> simp [ha]
  rw [e1];exact ih fun op hop => h' op (List.mem_cons_of_mem _ hop)
theorem Rel.mute {t u:Trace} {i:Nat} {a:Addr} {ks:Key -> Prop} (h:Rel t i a ks) (hu:∀ op ∈ u,op.act.touch? = none):Rel (t ++ u) i a ks := by
 obtain ⟨q,r,hk⟩ := h;refine ⟨q,r.app fun j hj _ hc => ?_,fun k hks p b ht => (hk k hks p b (ht.untouched hu)).append⟩;have := (counts_untouched hu hc).1;omega
theorem InvW.free0 (I:InvW P ty C Wg md d sy n0 w0 ps h ws w t):sy.dp 0 = d /\ sy.dp (ws.length + 1) = 0 /\ Deaf t (ws.length + 1) = 0 := by
 have hn:¬ goneW ws (ws.length + 1) := by
  rintro ⟨x,hx,_⟩;rw [List.getElem?_eq_none (Nat.le_refl _)] at hx; cases hx
 have h1 := I.mem.ti.hears 0 (fun e => e);have h2 := I.mem.ti.hears (ws.length + 1) hn;have h3:Deaf t (ws.length + 1) = 0 := Deaf_none fun op hop e => by have := I.mem.ti.who op hop; omega
 exact ⟨by rw [<- h1]; exact I.deaf0,by rw [<- h2]; exact h3,h3⟩
def keepC (F:Nat -> Bool) (k:Cells) (C:Nat) (c1:Array Value) (e:TypeId):Cells := fun r => if r = C then some (true,.pending c1 e) else freezeC F k r
theorem topW_spawn {fr:Frame} {cs:List Frame} {F:Nat -> Bool} {hc:Cells} {df:Deferred} {c cc c1:Array Value} {e:TypeId} {j:Nat} {φ:Value -> Cells -> Prop} (hsp:Spawns P fr cs df) (hhc:∀ r x,r ≠ C -> hc r = some x -> x.1 = false /\ freezeC F h.get r = some x)
  (hC:h.get C = some (true,.pending c e)) (hcC:hc C = some (true,.pending cc e)) (s1:cc.size = c.size) (s2:c1.size = c.size) (k1:∀ (i:Nat) (v:Value),cc[i]? = some v -> notHole v = true -> c[i]? = some v /\ isHole (.pending c1 e) i)
  (k2:∀ (i:Nat) (v:Value),c1[i]? = some v -> notHole v = true -> c[i]? = some v) (hw:WkG P ty Wg C (G (baseOf P [df]) []) ⟨hc,[],List.replicate 7 [],[(j,φ)]⟩) (hsm:ps.length + 1 < 2147483646) {h':LH} (hh':h'.get = keepC F h.get C c1 e)
  (K:∀ k,TopW P n0 w0 Φ ty C Wg (.opn k 0) 0 (ps ++ [[(j,φ)]]) (G (fr.finish undef) cs) h') (k:Nat):TopW P n0 w0 Φ ty C Wg (.opn k 1) 0 ps (G fr cs) h := by
 refine driveW rfl fun sy ws w sl t I => ?_;refine ⟨_,_,runT_crowd_spawn (crew_get0 (G fr cs) ws) (hsp.step w),?_⟩;have e0:MemOp.ofEvents 0 (G fr cs).frame.fn (G fr cs).frame.place #[] = #[] := rfl;rw [e0,crew_size];let ch:Goroutine × LH := (G (baseOf P [df]) [],⟨hc,[],List.replicate 7 [],[(j,φ)]⟩)
 have hcrew:((crew (G fr cs) ws).setIfInBounds 0 (G (fr.finish undef) cs)).push (G (baseOf P [df]) []) = crew (G (fr.finish undef) cs) (ws ++ [ch]) := by
  rw [crew_set0]; simp [crew,ch]
 rw [hcrew];obtain ⟨d0,dn,Dn⟩ := I.free0;have hstg:stg ch.2 = 7 := rfl;have hnew:∀ (i:Nat) x,(ws ++ [ch])[i]? = some x -> (i < ws.length /\ ws[i]? = some x) \/ (i = ws.length /\ x = ch) := by
  intro i x hx;rcases Nat.lt_or_ge i ws.length with hlt | hge
  ·rw [List.getElem?_append_left hlt] at hx; exact .inl ⟨hlt,hx⟩
  ·rw [List.getElem?_append_right hge] at hx;cases hi':i - ws.length with
   | zero => rw [hi'] at hx; simp at hx; exact .inr ⟨by omega,hx.symm⟩
   | succ n => rw [hi'] at hx; simp at hx
 have hm := I.mem.spawn (hc := hc) (c0 := keepC F h.get C c1 e) F hhc (fun r hr => by unfold keepC; rw [if_neg hr]; rfl) hC hcC (by unfold keepC; rw [if_pos rfl]) s1 s2 k1 k2
   (x := { g := 0,fn := (G fr cs).frame.fn,pos := (G fr cs).frame.place,act := .go (ws.length + 1) }) (y := { g := ws.length + 1,fn := (G (baseOf P [df]) []).frame.fn,pos := (G fr cs).frame.place,act := .start })
   ⟨rfl,rfl⟩ ⟨rfl,rfl⟩ (gone' := goneW (ws ++ [ch])) (by
    intro i hi;cases i with
    | zero => exact hi.elim
    | succ i =>
     obtain ⟨x,hx,h0⟩ := hi;rcases hnew i x hx with ⟨_,hx⟩ | ⟨_,rfl⟩
     ·exact ⟨x,hx,h0⟩
     ·cases h0)
   (fun i hi => by
    cases i with
    | zero => exact hi
    | succ i =>
     obtain ⟨x,hx,h0⟩ := hi;have hlt:i < ws.length := (List.getElem?_eq_some_iff.1 hx).1;exact ⟨x,by rw [List.getElem?_append_left hlt]; exact hx,h0⟩) (fun h => h) (by
    rintro ⟨x,hx,_⟩;rw [List.getElem?_eq_none (Nat.le_refl _)] at hx; cases hx) d0 dn I.wg.2.2
 have hcells:(fun i => if i = ws.length + 1 then hc else if i = 0 then keepC F h.get C c1 e else cellsOf h ws i) = cellsOf h' (ws ++ [ch]) := by
  funext i;cases i with
  | zero => simp [cellsOf,hh']
  | succ i =>
   rcases Nat.lt_trichotomy i ws.length with hlt | rfl | hgt
   ·simp [cellsOf,Nat.ne_of_lt hlt,List.getElem?_append_left hlt]
   ·simp [cellsOf,ch]
   ·have h1:ws[i]? = none := List.getElem?_eq_none (Nat.le_of_lt hgt);have h2:(ws ++ [ch])[i]? = none := List.getElem?_eq_none (by simp; exact hgt);simp [cellsOf,Nat.ne_of_gt hgt,h1,h2]
 rw [hcells] at hm;have hmu:∀ op ∈ (#[]:Trace).push { g := 0,fn := (G fr cs).frame.fn,pos := (G fr cs).frame.place,act := .go (ws.length + 1) } |>.push { g := ws.length + 1,fn := (G (baseOf P [df]) []).frame.fn,pos := (G fr cs).frame.place,act := .start },(∀ m,op.act ≠ .mark m) /\ op.act.touch? = none := by
  intro op hop;rcases Array.mem_push.1 hop with hop | rfl
  ·rcases Array.mem_push.1 hop with hop | rfl
   ·simp at hop
   ·exact ⟨nofun,rfl⟩
  ·exact ⟨nofun,rfl⟩
 obtain ⟨nC,hnC,q3⟩ := I.outC;refine K (k + 1) (sy.grant (ws.length + 1) Wg) _ w sl _ ⟨?_,⟨I.wg.1,I.wg.2.1,.inl I.wg.2.2⟩,?_,?_,?_,?_,?_,?_,?_,?_,nC,hnC,outC_app q3 fun op hop x hx => ?_⟩
 ·rw [List.length_append]; exact hm
 ·intro x hx;rcases List.mem_append.1 hx with hx | hx
  ·exact I.st x hx
  ·simp at hx; subst hx; exact .work (by simp [ch]) (by simp [ch]) rfl hw
 ·intro i x hx;rw [Deaf_mute fun op hop => (hmu op hop).1];rcases hnew i x hx with ⟨hlt,hx'⟩ | ⟨rfl,rfl⟩
  ·obtain ⟨a1,a2⟩ := I.tr i x hx';refine ⟨a1,fun hne => ⟨.inl (a2 hne).1,fun h6 => ?_⟩⟩;have e1:ownC (cellsOf h' (ws ++ [ch])) C (i + 1) = ownC (cellsOf h ws) C (i + 1) := by
    rw [<- hcells];funext k;unfold ownC holdsP;simp only [show ¬ (i + 1 = ws.length + 1) by omega,show ¬ (i + 1 = 0) by omega,if_false]
   rw [e1];exact ((a2 hne).2 h6).mute fun op hop => (hmu op hop).2
  ·exact ⟨Dn,fun _ => ⟨.inr ⟨rfl,rfl⟩,fun h6 => absurd h6 (by simp [ch])⟩⟩
 ·rw [pending_append];exact I.pend.append_right _
 ·rw [List.length_append]; exact hsm
 ·rw [Deaf_mute fun op hop => (hmu op hop).1]; exact I.deaf0
 ·obtain ⟨st,sm,h1,h2⟩ := I.mode;cases h2 with
  | opn a b c' =>
   refine ⟨_,0,h1,?_⟩;have hV:Vw (ws ++ [ch]) = Vw ws + 1 := by rw [Vw_append]; rfl
   have := Mode.opn (ws := ws ++ [ch]) (k := k + 1) (p := 0) (fun x hx => by
    rcases List.mem_append.1 hx with hx | hx
    ·exact a x hx
    ·simp at hx; subst hx; exact .inr (.inr (.inr (.inr rfl)))) (by rw [hV]; omega) (by omega)
   rw [hV] at this;have e1:(((Vw ws + 1:Nat):Int) + ((0:Nat):Int)) * KK = ((Vw ws:Int) + ((1:Nat):Int)) * KK := by simp
   rw [e1] at this; exact this
 ·intro x hx h0;rcases List.mem_append.1 hx with hx | hx
  ·exact I.oldC x hx h0
  ·simp at hx; subst hx; cases h0
 ·exact I.spC
 ·rw [(hmu op hop).2] at hx; cases hx
theorem top_begin {g:Goroutine} {c:Array Value} {e:TypeId} (hch:h.chans = []) (hp:h.pend = []) (hCW:C ≠ Wg) (hC:h.get C = some (true,.cells c e (0,0))) (hc:∀ (i:Nat) (v:Value),c[i]? = some v -> notHole v = true) (hW:h.get Wg = some (true,wgBlock ty 0 0)) {h':LH} (hh':h'.get = partedW h.get C Wg c e)
  (K:∀ k,TopW P n0 w0 Φ ty C Wg (.opn k 0) 0 [] g h'):Top P n0 w0 Φ g h := by
 intro sy ws w sl t I;have h0:∀ x ∈ ws,x.2.todo = [] := by
  intro x hx;by_cases e:x.2.todo = []
  ·exact e
  ·have := I.pend.mem_iff.2 (pending_mem e hx);rw [hp] at this; cases this
 have hm := I.mem.toW hch hCW (C := C) (Wg := Wg) (c := c) (e := e) hC hc hW;have hcells:(fun i => if i = 0 then partedW (cellsOf h ws 0) C Wg c e else cellsOf h ws i) = cellsOf h' ws := by
  funext i;cases i with
  | zero => simp [cellsOf,hh']
  | succ i => simp [cellsOf]
 rw [hcells] at hm;have hs0:∀ x ∈ ws,stg x.2 = 0 := fun x hx => by unfold stg; rw [h0 x hx]
 have hV:Vw ws = 0 := Vw_zero fun x hx => by rw [hs0 x hx]; omega
 obtain ⟨o1,f1,f2⟩ := I.mem.fits 0 C _ _ hC;cases f2;obtain ⟨o2,f3,f4⟩ := I.mem.fits 0 Wg _ _ hW;cases f4;refine K 0 _ ws w sl t ⟨hm,⟨.inr rfl,I.mem.low 0 (Wg,none) (holdsC_of (j := 0) (r := Wg) (x := (true,wgBlock ty 0 0)) I.mem.free hW),.inr ⟨rfl,rfl⟩⟩,?_,?_,?_,by decide,?_,⟨_,_,f3,?_⟩,?_,(fun hs => hs.elim (I.mem.ti.held 0 (C,none) true (holdsC_of (j := 0) (r := C) (x := (true,.cells c e (0,0))) I.mem.free hC)).2 hCW),c.size,⟨c,e,_,f1,rfl⟩,?_⟩
 ·intro x hx;obtain ⟨n,hq⟩ := leaves_all I.wk h0 x hx;exact .old (h0 x hx) hq
 ·intro i x hx;exact ⟨I.quit i x hx,fun hne => absurd (h0 x (List.mem_of_getElem? hx)) hne⟩
 ·rw [<- hp]; exact I.pend
 ·rw [I.mem.ti.hears 0 (fun e => e),I.mem.dp0]
 ·have := Mode.opn (ws := ws) (k := 0) (p := 0) (fun x hx => .inl (hs0 x hx)) (by omega) (by omega);rw [hV] at this;have e1:(((0:Nat):Int) + ((0:Nat):Int)) * KK = 0 := by simp
  rw [e1] at this; exact this
 ·intro x hx _;obtain ⟨i,hi⟩ := List.getElem?_of_mem hx;have := I.mem.apart (i := 0) (j := i + 1) (by omega) hC;simpa [cellsOf,hi] using this
 ·intro k p b hk ht;exact I.mem.ti.own 0 k (by
   obtain ⟨r,q⟩ := k;have := hk.1; simp only at this; subst this;exact holdsC_of (j := 0) (r := r) (x := (true,.cells c e (0,0))) I.mem.free hC) p b ht
end
end Go.TM
namespace Go.TM.WgW
section
open Go Go.Conc Go.ConcN Go.RowKit Go.Conc.Lib Go.ConcR.Gen Go.ConcN.Gen
open Go.ConcR (KK wgBlock WgAt stA smA rd wr mk DC0)
variable {L:WgLink}
set_option maxRecDepth 100000 in
set_option maxHeartbeats 8000000 in
theorem waitStart {P:Program} (H:WgLib P L) {Wg:Nat} {cs:List Frame} (w:World) (hF:WgLive L.tWg Wg w) :
  Idle P L.tWg Wg (AtMark P .disable (Idle P L.tWg Wg fun g _ => Anch L Wg cs g))
   (G ((base L.wait).at ⟨#[.pointer (some ⟨Wg,0,none⟩),undef,undef,undef,undef,undef,undef,undef,undef,undef,undef,undef,undef,undef,undef,undef,undef,undef,undef,undef,undef,undef,undef,undef,undef,undef,undef,undef,undef,undef,undef,undef,undef,undef,undef,undef,undef,undef,undef,undef,undef,undef,undef,undef,undef,undef,undef,undef,undef,undef,undef,undef,undef,undef,undef,undef,undef,undef,undef,undef,undef,undef,undef,undef,undef,undef,undef,undef,undef,undef,undef,undef,undef,undef,undef,undef,undef,undef,undef,undef,undef,undef,undef,undef],[]⟩ [.code (body_wait L)]) cs) w := by
 lib_facts
 refine ⟨500,?_⟩;simp only [body_wait,waitFn,Option.getD_some]
 u_c stepG_seq rm hF
 u_cond true rm hF
 u_reg rm hF
 refine Goes.stop (fun w1 h1 => ?_);replace hF := rm hF h1;clear h1;refine ⟨rfl,_,stepG_mark0 .disable (by simp) rfl rfl (by k_ne) rfl H.f_disable (x_disable_n L) (x_disable_b L) (x_disable_x L) (x_disable_f L),3,?_⟩
 walk_nrm
 u_c stepG_region_end rm hF
 u_c stepG_block rm hF
 u_c stepG_loop rm hF
 exact Goes.stop (fun w₂ h₂ => ⟨_,rfl,by simp,by simp⟩)
set_option maxRecDepth 100000 in
set_option maxHeartbeats 8000000 in
theorem waitRound {P:Program} (H:WgLib P L) {Wg:Nat} {cs:List Frame} (g:Goroutine) (hA:Anch L Wg cs g) (w:World) (hF:WgLive L.tWg Wg w) :
  Idle P L.tWg Wg (AtLd P L.tWg Wg fun v g w => (v = 0 -> Idle P L.tWg Wg (AtJoin P L.tWg Wg cs L.wait) g w) /\
   (v ≠ 0 -> Idle P L.tWg Wg (AtCas P L.tWg Wg v (AtReg P L.tWg Wg cs L.wait) (Idle P L.tWg Wg fun g _ => Anch L Wg cs g)) g w)) g w := by
 lib_facts
 obtain ⟨T,rfl,hT84,t0⟩ := hA;obtain ⟨v0,v1,v2,v3,v4,v5,v6,v7,v8,v9,v10,v11,v12,v13,v14,v15,v16,v17,v18,v19,v20,v21,v22,v23,v24,v25,v26,v27,v28,v29,v30,v31,v32,v33,v34,v35,v36,v37,v38,v39,v40,v41,v42,v43,v44,v45,v46,v47,v48,v49,v50,v51,v52,v53,v54,v55,v56,v57,v58,v59,v60,v61,v62,v63,v64,v65,v66,v67,v68,v69,v70,v71,v72,v73,v74,v75,v76,v77,v78,v79,v80,v81,v82,v83,rfl⟩ := array84 T hT84;simp only [List.getElem?_toArray,List.getElem?_cons_zero,Option.some.injEq] at t0;subst t0;refine ⟨500,?_⟩;simp only [L7,body_wait,waitFn,Option.getD_some]
 u_c stepG_block rm hF
 u_c stepG_seq rm hF
 u_reg rm hF
 u_op rm hF
 u_op rm hF
 u_op rm hF
 u_call H.f_uLoad (nm_uLoad L) uLoadFn rm hF
 u_c stepG_seq rm hF
 u_reg rm hF
 u_op rm hF
 u_c stepG_region_end rm hF
 u_c stepG_seq rm hF
 u_reg rm hF
 u_op rm hF
 u_op rm hF
 u_op rm hF
 refine Goes.stop (fun w1 h1 => ?_);replace hF := rm hF h1;clear h1;refine ⟨rfl,fun v hv hw => ?_⟩;rcases Nat.eq_zero_or_pos v with rfl | hvp
 ·replace hw:WgAt L.tWg Wg w1 0 0 := by simpa using hw
  refine ⟨_,stepG_load_atomic (v := 0) rfl rfl (by k_ne) rfl H.f_loadU64 (x_loadU64_n L) (x_loadU64_b L) (x_loadU64_x L) .u64 (x_loadU64_f L) rfl hw.cellSt,fun _ => ⟨500,?_⟩,fun h => absurd rfl h⟩;clear hw
  walk_nrm
  u_op rm hF
  u_c stepG_region_end rm hF
  u_c stepG_ret' rm hF
  u_leave1 H.f_uLoad rm hF
  u_op rm hF
  u_c stepG_region_end rm hF
  u_c stepG_seq rm hF
  u_reg rm hF
  u_op rm hF
  u_op rm hF
  u_op rm hF
  u_op rm hF
  u_c stepG_region_end rm hF
  u_c stepG_seq rm hF
  u_reg rm hF
  u_op rm hF
  u_op rm hF
  u_op rm hF
  u_op rm hF
  u_c stepG_region_end rm hF
  u_c stepG_seq rm hF
  u_c stepG_seq rm hF
  u_reg rm hF
  u_op rm hF
  u_op rm hF
  u_c stepG_region_end rm hF
  u_cond true rm hF
  u_c stepG_seq rm hF
  u_cond true rm hF
  u_c stepG_seq rm hF
  u_reg rm hF
  refine Goes.stop (fun w2 h2 => ?_);replace hF := rm hF h2;clear h2;refine ⟨rfl,_,stepG_mark0 .enable (by simp) rfl rfl (by k_ne) rfl H.f_enable (x_enable_n L) (x_enable_b L) (x_enable_x L) (x_enable_f L),500,?_⟩
  walk_nrm
  u_c stepG_region_end rm hF
  u_reg rm hF
  u_op rm hF
  u_conv H.underlying_tWgP H.room_tWg (WgLive.cell0 hF).choose_spec rm hF
  refine Goes.stop (fun w3 h3 => ?_);replace hF := rm hF h3;clear h3;refine ⟨rfl,_,stepG_markAt .acquire (by simp) rfl rfl (by k_ne) rfl H.f_acquire (x_acquire_n L) (x_acquire_b L) (x_acquire_x L) (x_acquire_f L) (by simp [Act.eval,stA]),500,?_⟩
  walk_nrm
  u_c stepG_region_end rm hF
  u_c stepG_seq rm hF
  u_c stepG_seq rm hF
  u_reg rm hF
  u_op rm hF
  u_op rm hF
  u_op rm hF
  u_op rm hF
  u_op rm hF
  u_op rm hF
  u_op rm hF
  u_op rm hF
  u_skip rm hF
  u_skip rm hF
  u_op rm hF
  u_c stepG_region_end rm hF
  u_cond false rm hF
  u_c stepG_skip rm hF
  u_c stepG_ret' rm hF
  exact Goes.stop (fun _ _ => ⟨_,rfl,rfl,rfl,rfl,rfl⟩)

 ·obtain ⟨S,hS⟩ : ∃ S:Int,(v:Int) * KK = S := ⟨_,rfl⟩
  have a1:S / 4294967296 = (v:Int) := by rw [<- hS]; simp only [KK]; omega
  have b1:bits .and .u64 S 2147483648 = 0 := by rw [<- hS]; have := st_flag v 0 (by omega) (by omega); simpa [KK] using this
  have b2:bits .and .u64 S 2147483647 = 0 := by rw [<- hS]; have := st_waiters v 0 (by omega) (by omega); simpa [KK] using this
  have c1:IntKind.i32.wrap (v:Int) = (v:Int) := by rw [IntKind.wrap_i32]; omega
  have w1':IntKind.u64.wrap (S + 1) = S + 1 := by rw [IntKind.wrap_u64,<- hS]; simp only [KK]; omega
  have q3:decide ((v:Int) < 0) = false := decide_eq_false (by omega);have q4:decide (0 < (v:Int)) = true := decide_eq_true (by omega);have q5:((v:Int) == 0) = false := by simp; omega
  have q6:decide ((v:Int) = 0) = false := decide_eq_false (by omega);rw [hS] at hw;refine ⟨_,stepG_load_atomic (v := S) rfl rfl (by k_ne) rfl H.f_loadU64 (x_loadU64_n L) (x_loadU64_b L) (x_loadU64_x L) .u64 (x_loadU64_f L) rfl hw.cellSt,fun h0 => absurd h0 (by omega),fun _ => ⟨500,?_⟩⟩;clear hw
  walk_nrm
  u_op rm hF
  u_c stepG_region_end rm hF
  u_c stepG_ret' rm hF
  u_leave1 H.f_uLoad rm hF
  u_op rm hF
  u_c stepG_region_end rm hF
  u_c stepG_seq rm hF
  u_reg rm hF
  u_op rm hF
  u_op rm hF
  u_op rm hF
  u_op rm hF
  u_c stepG_region_end rm hF
  u_c stepG_seq rm hF
  u_reg rm hF
  u_op rm hF
  u_op rm hF
  u_op rm hF
  u_op rm hF
  u_c stepG_region_end rm hF
  u_c stepG_seq rm hF
  u_c stepG_seq rm hF
  u_reg rm hF
  u_op rm hF
  u_op rm hF
  u_c stepG_region_end rm hF
  u_cnd false rm hF
  u_c stepG_skip rm hF
  u_c stepG_seq rm hF
  u_reg rm hF
  u_op rm hF
  u_op rm hF
  u_op rm hF
  u_op rm hF
  u_op rm hF
  u_op rm hF
  u_call H.f_uCas (nm_uCas L) uCasFn rm hF
  u_c stepG_seq rm hF
  u_reg rm hF
  u_op rm hF
  u_c stepG_region_end rm hF
  u_c stepG_seq rm hF
  u_reg rm hF
  u_op rm hF
  u_op rm hF
  u_op rm hF
  u_op rm hF
  u_op rm hF
  refine Goes.stop (fun w2 h2 => ?_);replace hF := rm hF h2;clear h2;refine ⟨rfl,fun v' hv' hw => ⟨fun e => ?_,fun e => ?_⟩⟩
  ·subst e;rw [hS] at hw ⊢;refine ⟨_,(stepG_cas_hit (v := S) (n := S + 1) rfl rfl (by k_ne) rfl H.f_casU64 (x_casU64_n L) (x_casU64_b L) (x_casU64_x L) .u64 (x_casU64_f L) rfl rfl rfl hw.cellSt (hw.thaw 0)).trans (by rfl),500,?_⟩;replace hF:WgLive L.tWg Wg (w2.setCell (stA Wg) (.int .u64 (S + 1))) := ⟨_,_,hw.setSt _⟩
   clear hw
   walk_nrm
   u_op rm hF
   u_c stepG_region_end rm hF
   u_c stepG_ret' rm hF
   u_leave1 H.f_uCas rm hF
   u_c stepG_region_end rm hF
   u_cond true rm hF
   u_c stepG_seq rm hF
   u_c stepG_seq rm hF
   u_reg rm hF
   u_op rm hF
   u_op rm hF
   u_op rm hF
   u_op rm hF
   u_c stepG_region_end rm hF
   u_cond true rm hF
   u_reg rm hF
   u_op rm hF
   u_op rm hF
   u_op rm hF
   u_conv H.underlying_tPU32 H.room_tU32 (WgLive.cell1 hF).choose_spec rm hF
   refine Goes.stop (fun w3 h3 => ?_);replace hF := rm hF h3;clear h3;refine ⟨rfl,_,stepG_markAt .write (by simp) rfl rfl (by k_ne) rfl H.f_raceWrite (x_raceWrite_n L) (x_raceWrite_b L) (x_raceWrite_x L) (x_raceWrite_f L) (ad := ⟨Wg,1,none⟩) (by simp [Act.eval]),500,?_⟩
   walk_nrm
   u_c stepG_region_end rm hF
   u_c stepG_seq rm hF
   u_reg rm hF
   u_op rm hF
   u_c stepG_region_end rm hF
   u_c stepG_seq rm hF
   u_c stepG_seq rm hF
   u_reg rm hF
   u_op rm hF
   u_op rm hF
   u_op rm hF
   u_op rm hF
   u_skip rm hF
   u_op rm hF
   u_c stepG_region_end rm hF
   u_cond false rm hF
   u_c stepG_skip rm hF
   u_c stepG_seq rm hF
   u_reg rm hF
   u_op rm hF
   u_op rm hF
   u_op rm hF
   u_op rm hF
   refine Goes.stop (fun w4 h4 => ?_);replace hF := rm hF h4;clear h4;refine ⟨rfl,rfl,fun ⟨st,hw⟩ => stepG_semacquire_wait rfl rfl rfl H.f_semacquire (x_semacquire_n L) (x_semacquire_b L) (x_semacquire_x L) (x_semacquire_f L) (by simp [Act.eval,smA]) hw.cellSm,fun hf => ?_⟩;refine ⟨_,(stepG_semacquire (n := 1) rfl rfl (by k_ne) rfl H.f_semacquire (x_semacquire_n L) (x_semacquire_b L) (x_semacquire_x L) (x_semacquire_f L) (by simp [Act.eval,smA]) hf.cellSm (by k_ne) (hf.thaw 1)).trans (by rfl),500,?_⟩;replace hF:WgLive L.tWg Wg (w4.setCell (smA Wg) (.int .u32 0)) := ⟨_,_,hf.setSm 0⟩
   clear hf
   walk_nrm
   u_c stepG_region_end rm hF
   u_c stepG_seq rm hF
   u_reg rm hF
   u_op rm hF
   u_op rm hF
   u_op rm hF
   u_call H.f_uLoad (nm_uLoad L) uLoadFn rm hF
   u_c stepG_seq rm hF
   u_reg rm hF
   u_op rm hF
   u_c stepG_region_end rm hF
   u_c stepG_seq rm hF
   u_reg rm hF
   u_op rm hF
   u_op rm hF
   u_op rm hF
   refine Goes.stop (fun w5 h5 => ?_);replace hF := rm hF h5;clear h5;refine ⟨rfl,fun hw => ⟨_,stepG_load_atomic (v := 0) rfl rfl (by k_ne) rfl H.f_loadU64 (x_loadU64_n L) (x_loadU64_b L) (x_loadU64_x L) .u64 (x_loadU64_f L) rfl hw.cellSt,500,?_⟩⟩;clear hw
   walk_nrm
   u_op rm hF
   u_c stepG_region_end rm hF
   u_c stepG_ret' rm hF
   u_leave1 H.f_uLoad rm hF
   u_op rm hF
   u_op rm hF
   u_c stepG_region_end rm hF
   u_c stepG_seq rm hF
   u_cond true rm hF
   u_c stepG_seq rm hF
   u_reg rm hF
   refine Goes.stop (fun w6 h6 => ?_);replace hF := rm hF h6;clear h6;refine ⟨rfl,_,stepG_mark0 .enable (by simp) rfl rfl (by k_ne) rfl H.f_enable (x_enable_n L) (x_enable_b L) (x_enable_x L) (x_enable_f L),500,?_⟩
   walk_nrm
   u_c stepG_region_end rm hF
   u_reg rm hF
   u_op rm hF
   u_conv H.underlying_tWgP H.room_tWg (WgLive.cell0 hF).choose_spec rm hF
   refine Goes.stop (fun w7 h7 => ?_);replace hF := rm hF h7;clear h7;refine ⟨rfl,_,stepG_markAt .acquire (by simp) rfl rfl (by k_ne) rfl H.f_acquire (x_acquire_n L) (x_acquire_b L) (x_acquire_x L) (x_acquire_f L) (by simp [Act.eval,stA]),500,?_⟩
   walk_nrm
   u_c stepG_region_end rm hF
   u_c stepG_seq rm hF
   u_c stepG_seq rm hF
   u_reg rm hF
   u_op rm hF
   u_c stepG_region_end rm hF
   u_cond false rm hF
   u_c stepG_skip rm hF
   u_c stepG_ret' rm hF
   exact Goes.stop (fun _ _ => ⟨_,rfl,rfl,rfl,rfl,rfl⟩)
  ·refine ⟨_,stepG_cas_miss (v := (v':Int) * KK) (old := S) (n := S + 1) rfl rfl (by k_ne) rfl H.f_casU64 (x_casU64_n L) (x_casU64_b L) (x_casU64_x L) .u64 (x_casU64_f L) rfl rfl rfl hw.cellSt (hw.thaw 0) (by rw [<- hS]; simp only [KK]; omega),500,?_⟩;clear hw
   walk_nrm
   u_op rm hF
   u_c stepG_region_end rm hF
   u_c stepG_ret' rm hF
   u_leave1 H.f_uCas rm hF
   u_c stepG_region_end rm hF
   u_cond false rm hF
   u_c stepG_skip rm hF
   u_c stepG_inBlock rm hF
   u_c stepG_inLoop rm hF
   exact Goes.stop (fun w₂ h₂ => ⟨_,rfl,by simp,by simp⟩)
end
section
open Go Go.Conc Go.ConcN Go.RowKit Go.Conc.Lib Go.ConcR.Gen Go.ConcN.Gen
open Go.ConcR (KK wgBlock WgAt stA smA rd wr mk DC0)
variable {L:WgLink}
set_option maxRecDepth 100000 in
set_option maxHeartbeats 8000000 in
theorem addW {P:Program} (H:WgLib P L) {Wg:Nat} {cs:List Frame} (w:World) (hF:WgLive L.tWg Wg w) :
  Idle P L.tWg Wg (AtMark P .disable (Idle P L.tWg Wg (AtAdd1 P L.tWg Wg fun v g w =>
   (v = 1 -> Idle P L.tWg Wg (AtMark P (.read (smA Wg)) (Idle P L.tWg Wg (AtEn P L.tWg Wg cs L.add))) g w) /\
   (v ≠ 1 -> Idle P L.tWg Wg (AtEn P L.tWg Wg cs L.add) g w))))
   (G ((base L.add).at ⟨#[.pointer (some ⟨Wg,0,none⟩),.int .i64 1,undef,undef,undef,undef,undef,undef,undef,undef,undef,undef,undef,undef,undef,undef,undef,undef,undef,undef,undef,undef,undef,undef,undef,undef,undef,undef,undef,undef,undef,undef,undef,undef,undef,undef,undef,undef,undef,undef,undef,undef,undef,undef,undef,undef,undef,undef,undef,undef,undef,undef,undef,undef,undef,undef,undef,undef,undef,undef,undef,undef,undef,undef,undef,undef,undef,undef,undef,undef,undef,undef,undef,undef,undef,undef,undef,undef,undef,undef,undef,undef,undef,undef,undef,undef,undef,undef,undef,undef,undef,undef,undef,undef,undef,undef,undef,undef,undef,undef,undef,undef,undef,undef,undef,undef,undef,undef,undef,undef,undef,undef,undef,undef,undef,undef,undef],[]⟩ [.code (body_add L)]) cs) w := by
 lib_facts
 refine ⟨500,?_⟩;simp only [body_add,addFn,Option.getD_some]
 u_c stepG_seq rm hF
 u_cond true rm hF
 u_c stepG_seq rm hF
 u_c stepG_seq rm hF
 u_reg rm hF
 u_op rm hF
 u_op rm hF
 u_c stepG_region_end rm hF
 u_cond false rm hF
 u_c stepG_skip rm hF
 u_c stepG_seq rm hF
 u_reg rm hF
 refine Goes.stop (fun w₁ h₁ => ?_);replace hF := rm hF h₁;clear h₁;refine ⟨rfl,_,stepG_mark0 .disable (by simp) rfl rfl (by k_ne) rfl H.f_disable (x_disable_n L) (x_disable_b L) (x_disable_x L) (x_disable_f L),500,?_⟩
 walk_nrm
 u_c stepG_region_end rm hF
 u_reg rm hF
 u_defer rm hF
 u_c stepG_region_end rm hF
 u_c stepG_seq rm hF
 u_reg rm hF
 u_op rm hF
 u_c stepG_region_end rm hF
 u_c stepG_seq rm hF
 u_c stepG_seq rm hF
 u_reg rm hF
 u_bub rm hF
 u_c stepG_region_end rm hF
 u_cond false rm hF
 u_c stepG_skip rm hF
 u_c stepG_seq rm hF
 u_reg rm hF
 u_op rm hF
 u_op rm hF
 u_op rm hF
 u_op rm hF
 u_op rm hF
 u_op rm hF
 u_call H.f_uAdd (nm_uAdd L) uAddFn rm hF
 u_c stepG_seq rm hF
 u_reg rm hF
 u_op rm hF
 u_c stepG_region_end rm hF
 u_c stepG_seq rm hF
 u_reg rm hF
 u_op rm hF
 u_op rm hF
 u_op rm hF
 u_op rm hF
 refine Goes.stop (fun w₂ h₂ => ?_);replace hF := rm hF h₂;clear h₂;refine ⟨rfl,fun v hv hw => ?_⟩;rcases Nat.eq_zero_or_pos v with rfl | hvp
 ·replace hw:WgAt L.tWg Wg w₂ 0 0 := by simpa using hw
  have z:(((0:Nat):Int) + 1) * KK = KK := by simp
  rw [z];have e0:IntKind.u64.wrap (0 + 4294967296) = KK := by decide
  refine ⟨_,(stepG_add_atomic rfl rfl (by k_ne) rfl H.f_addU64 (x_addU64_n L) (x_addU64_b L) (x_addU64_x L) .u64 (x_addU64_f L) rfl rfl hw.cellSt (hw.thaw 0)).trans (by rw [e0]; rfl),fun _ => ⟨500,?_⟩,fun h => absurd rfl h⟩;replace hF:WgLive L.tWg Wg (w₂.setCell (stA Wg) (.int .u64 KK)) := ⟨_,_,hw.setSt _⟩
  clear hw;simp only [KK] at hF ⊢
  walk_nrm
  u_op rm hF
  u_c stepG_region_end rm hF
  u_c stepG_ret' rm hF
  u_leave1 H.f_uAdd rm hF
  u_op rm hF
  u_c stepG_region_end rm hF
  u_c stepG_seq rm hF
  u_c stepG_seq rm hF
  u_reg rm hF
  u_op rm hF
  u_op rm hF
  u_op rm hF
  u_op rm hF
  u_skip rm hF
  u_skip rm hF
  u_op rm hF
  u_c stepG_region_end rm hF
  u_cond false rm hF
  u_c stepG_skip rm hF
  u_c stepG_seq rm hF
  u_reg rm hF
  u_op rm hF
  u_op rm hF
  u_op rm hF
  u_op rm hF
  u_c stepG_region_end rm hF
  u_c stepG_seq rm hF
  u_reg rm hF
  u_op rm hF
  u_op rm hF
  u_op rm hF
  u_op rm hF
  u_c stepG_region_end rm hF
  u_c stepG_seq rm hF
  u_c stepG_seq rm hF
  u_reg rm hF
  u_op rm hF
  u_op rm hF
  u_op rm hF
  u_op rm hF
  u_op rm hF
  u_op rm hF
  u_op rm hF
  u_op rm hF
  u_op rm hF
  u_op rm hF
  u_c stepG_region_end rm hF
  u_cond true rm hF
  u_reg rm hF
  u_op rm hF
  u_op rm hF
  u_op rm hF
  u_conv H.underlying_tPU32 H.room_tU32 (WgLive.cell1 hF).choose_spec rm hF
  refine Goes.stop (fun w₃ h₃ => ?_);replace hF := rm hF h₃;clear h₃;refine ⟨rfl,_,stepG_markAt .read (by simp) rfl rfl (by k_ne) rfl H.f_raceRead (x_raceRead_n L) (x_raceRead_b L) (x_raceRead_x L) (x_raceRead_f L) (ad := ⟨Wg,1,none⟩) (by simp [Act.eval]),500,?_⟩
  walk_nrm
  u_c stepG_region_end rm hF
  u_c stepG_seq rm hF
  u_c stepG_seq rm hF
  u_reg rm hF
  u_op rm hF
  u_op rm hF
  u_c stepG_region_end rm hF
  u_cond false rm hF
  u_c stepG_skip rm hF
  u_c stepG_seq rm hF
  u_c stepG_seq rm hF
  u_reg rm hF
  u_op rm hF
  u_op rm hF
  u_op rm hF
  u_skip rm hF
  u_skip rm hF
  u_op rm hF
  u_op rm hF
  u_skip rm hF
  u_skip rm hF
  u_skip rm hF
  u_skip rm hF
  u_op rm hF
  u_c stepG_region_end rm hF
  u_cond false rm hF
  u_c stepG_skip rm hF
  u_c stepG_seq rm hF
  u_c stepG_seq rm hF
  u_reg rm hF
  u_op rm hF
  u_op rm hF
  u_op rm hF
  u_skip rm hF
  u_skip rm hF
  u_op rm hF
  u_c stepG_region_end rm hF
  u_cond true rm hF
  u_c stepG_ret' rm hF
  refine Goes.stop (fun w₄ h₄ => ?_);replace hF := rm hF h₄;clear h₄;refine ⟨rfl,_,stepG_unwind_entry (v := .tuple #[]) (evs := #[mk .enable]) rfl H.f_enable (x_enable_n L) (x_enable_b L) (x_enable_x L) (x_enable_f L) (by simp [Extern.Race.none_]) (by simp [mk]) (by simp [mk]),2,?_⟩;exact Goes.stop fun _ _ => ⟨_,rfl,rfl,rfl,rfl,rfl⟩
 ·obtain ⟨V,hV⟩ : ∃ V:Int,V = (v:Int) + 1 := ⟨_,rfl⟩
  obtain ⟨S,hS⟩ : ∃ S:Int,S = V * KK := ⟨_,rfl⟩
  have eS:IntKind.u64.wrap ((v:Int) * KK + 4294967296) = S := by rw [IntKind.wrap_u64,hS,hV]; simp only [KK]; omega
  rw [<- hV,<- hS];have a1:S / 4294967296 = V := by rw [hS]; simp only [KK]; omega
  have b1:bits .and .u64 S 2147483648 = 0 := by rw [hS,hV]; have := st_flag (v + 1) 0 (by omega) (by omega); simpa [KK] using this
  have b2:bits .and .u64 S 2147483647 = 0 := by rw [hS,hV]; have := st_waiters (v + 1) 0 (by omega) (by omega); simpa [KK] using this
  have c1:IntKind.i32.wrap V = V := by rw [IntKind.wrap_i32]; omega
  have hV1:1 < V := by omega
  have hV2:V < 2147483648 := by omega
  have q1:(V == 1) = false := by simp; omega
  have q2:decide (V = 1) = false := decide_eq_false (by omega);have q3:decide (V < 0) = false := decide_eq_false (by omega);have q4:decide (0 < V) = true := decide_eq_true (by omega);have q5:(V == 0) = false := by simp; omega
  have q6:decide (V = 0) = false := decide_eq_false (by omega);refine ⟨_,(stepG_add_atomic rfl rfl (by k_ne) rfl H.f_addU64 (x_addU64_n L) (x_addU64_b L) (x_addU64_x L) .u64 (x_addU64_f L) rfl rfl hw.cellSt (hw.thaw 0)).trans (by rw [eS]; rfl),fun h => absurd h (by omega),fun _ => ⟨500,?_⟩⟩;replace hF:WgLive L.tWg Wg (w₂.setCell (stA Wg) (.int .u64 S)) := ⟨_,_,hw.setSt _⟩
  clear hw hS hV eS
  walk_nrm
  u_op rm hF
  u_c stepG_region_end rm hF
  u_c stepG_ret' rm hF
  u_leave1 H.f_uAdd rm hF
  u_op rm hF
  u_c stepG_region_end rm hF
  u_c stepG_seq rm hF
  u_c stepG_seq rm hF
  u_reg rm hF
  u_op rm hF
  u_op rm hF
  u_op rm hF
  u_op rm hF
  u_skip rm hF
  u_skip rm hF
  u_op rm hF
  u_c stepG_region_end rm hF
  u_cnd false rm hF
  u_c stepG_skip rm hF
  u_c stepG_seq rm hF
  u_reg rm hF
  u_op rm hF
  u_op rm hF
  u_op rm hF
  u_op rm hF
  u_c stepG_region_end rm hF
  u_c stepG_seq rm hF
  u_reg rm hF
  u_op rm hF
  u_op rm hF
  u_op rm hF
  u_op rm hF
  u_c stepG_region_end rm hF
  u_c stepG_seq rm hF
  u_c stepG_seq rm hF
  u_reg rm hF
  u_op rm hF
  u_op rm hF
  u_op rm hF
  u_op rm hF
  u_op rm hF
  u_op rm hF
  u_op rm hF
  u_op rm hF
  u_op rm hF
  u_op rm hF
  u_c stepG_region_end rm hF
  u_cnd false rm hF
  u_c stepG_skip rm hF
  u_c stepG_seq rm hF
  u_c stepG_seq rm hF
  u_reg rm hF
  u_op rm hF
  u_op rm hF
  u_c stepG_region_end rm hF
  u_cnd false rm hF
  u_c stepG_skip rm hF
  u_c stepG_seq rm hF
  u_c stepG_seq rm hF
  u_reg rm hF
  u_op rm hF
  u_op rm hF
  u_op rm hF
  u_skip rm hF
  u_skip rm hF
  u_op rm hF
  u_op rm hF
  u_skip rm hF
  u_skip rm hF
  u_skip rm hF
  u_skip rm hF
  u_op rm hF
  u_c stepG_region_end rm hF
  u_cnd false rm hF
  u_c stepG_skip rm hF
  u_c stepG_seq rm hF
  u_c stepG_seq rm hF
  u_reg rm hF
  u_op rm hF
  u_op rm hF
  u_op rm hF
  u_skip rm hF
  u_skip rm hF
  u_op rm hF
  u_c stepG_region_end rm hF
  u_cnd true rm hF
  u_c stepG_ret' rm hF
  refine Goes.stop (fun w₄ h₄ => ?_);replace hF := rm hF h₄;clear h₄;refine ⟨rfl,_,stepG_unwind_entry (v := .tuple #[]) (evs := #[mk .enable]) rfl H.f_enable (x_enable_n L) (x_enable_b L) (x_enable_x L) (x_enable_f L) (by simp [Extern.Race.none_]) (by simp [mk]) (by simp [mk]),2,?_⟩;exact Goes.stop fun _ _ => ⟨_,rfl,rfl,rfl,rfl,rfl⟩
end
end Go.TM.WgW
namespace Go.TM
section
open Go Go.Conc
open Go.ConcR (KK wgBlock WgAt stA smA rd wr)
open Go.ConcN (WgLive)
open Go.Conc.Lib Go.RowKit
open WgW
variable {P:Program} {Φ:Value -> World -> Prop} {ty:TypeId} {C Wg:Nat} {md md':MT} {d d':Nat} {sy:Sy} {n0:Nat} {w0:World} {ps:List Script} {h:LH} {ws:Crew} {w:World} {t:Trace} {sl:Option (Nat × Nat)}
theorem TI.redp {n ng:Nat} {hold:Nat -> Key -> Option Bool} {gone:Nat -> Prop} (h:TI sy t n ng hold gone) (hd:∀ g,¬ gone g -> sy.dp g = 0):TI ⟨sy.sp,sy.use,fun _ => 0⟩ t n ng hold gone :=
 ⟨fun g hg => by rw [h.hears g hg]; exact hd g hg,h.who,h.spl,h.lt,h.held,h.excl,h.own,h.shared,h.norace,h.spc,h.said,h.acc,h.handed,h.norel⟩
theorem MemW.redp {cs:Nat -> Cells} {ng:Nat} {gone:Nat -> Prop} (m:MemW sy n0 w0 C cs ng gone w t) (hd:∀ g,¬ gone g -> sy.dp g = 0):MemW ⟨sy.sp,sy.use,fun _ => 0⟩ n0 w0 C cs ng gone w t :=
 ⟨m.fits,m.part,m.whole,m.ti.redp hd,m.off,m.cl,m.out,m.pos,m.base,m.low,m.size,m.os,m.tape,m.output⟩
structure Joined (ps:List Script) (c c':Array Value):Prop where
 size:c'.size = c.size
 mine:∀ (i:Nat) (v:Value),c[i]? = some v -> notHole v = true -> c'[i]? = some v
 theirs:∀ i φ,[(i,φ)] ∈ ps -> ∃ v,c'[i]? = some v /\ notHole v = true /\ φ v noCells
def strip (C:Nat) (x:Goroutine × LH):Goroutine × LH := (x.1,{ x.2 with get := withoutC x.2.get C,todo := [] })
theorem crew_strip (g:Goroutine):crew g (ws.map (strip C)) = crew g ws := by
 unfold crew;congr 2;rw [List.map_map];exact List.map_congr_left fun x _ => rfl
theorem pending_none:∀ {ws:Crew},(∀ x ∈ ws,x.2.todo = []) -> pending ws = []
 | [],_ => rfl
 | a :: ws,h => by
  show cons' a.2.todo (pending ws) = [];rw [h a List.mem_cons_self,pending_none fun x hx => h x (List.mem_cons_of_mem _ hx)]; rfl
theorem life1 {s d:Nat} {g:Goroutine} (l:Life P ty Wg s d g) (hs:s = 1):∃ n,QuitsD P n d g := by
 cases l with
 | quit hq => exact ⟨_,hq⟩
 | _ => omega
theorem InvW.join (I:InvW P ty C Wg .fin 0 sy n0 w0 ps h ws w t) {c:Array Value} {e:TypeId} (hC:h.get C = some (true,.pending c e)) (hfull:∀ (i:Nat) (v:Value),c[i]? = some v -> notHole v = true \/ ∃ φ,[(i,φ)] ∈ ps)
  {op:MemOp} (hop:op.g = 0 /\ op.act = .mark (.acquire (stA Wg))):∃ c',Joined ps c c' /\ ∃ sy',Inv P sy' n0 w0 { get := h.get.upd C (true,.cells c' e (0,0)),chans := [],pend := [],todo := h.todo } (ws.map (strip C)) w (t ++ #[op]) := by
 classical
 obtain ⟨o1,f1,cw,rfl,f2,f3⟩ := I.mem.fits 0 C _ _ hC;have quiet:Quiet ws := by
  obtain ⟨_,_,_,m⟩ := I.mode;cases m with
  | fin a => exact a
 -- who has what
 have worker:∀ (j:Nat) x,ws[j]? = some x -> x.2.todo ≠ [] -> ∃ i φ cj ej v n,x.2.todo = [(i,φ)] /\ x.2.get C = some (true,.pending cj ej) /\ cj[i]? = some v /\ cw[i]? = some v /\ notHole v = true /\ φ v noCells /\ QuitsD P n x.2.dp x.1 /\ x.2.pend.length <= 6 := by
  intro j x hx hne;have hst := I.st x (List.mem_of_getElem? hx);have hq := quiet x (List.mem_of_getElem? hx);rw [stg_ne hne] at hq;cases hst with
  | old h0 _ => exact absurd h0 hne
  | work _ h7 _ _ => omega
  | lib hk h1 h7 l =>
   obtain ⟨i,φ,cj,ej,v,a1,a2,a3,a4,a5⟩ := hk.kept;obtain ⟨o2,b1,c2,b2,b3,b4⟩ := I.mem.fits (j + 1) C true _ (show cellsOf h ws (j + 1) C = some (true,.pending cj ej) by simp [cellsOf,hx,a2]);rw [f1] at b1; cases b1; cases b2;have h1':x.2.pend.length = 1 := by omega
   obtain ⟨n,hn⟩ := life1 l h1';exact ⟨i,φ,cj,_,v,n,a1,a2,a3,b4 i v a3 a4,a4,a5,hn,by omega⟩
 have promised:∀ i φ,[(i,φ)] ∈ ps -> ∃ (j:Nat) (x:Goroutine × LH),ws[j]? = some x /\ x.2.todo = [(i,φ)] := by
  intro i φ hm;obtain ⟨_,x,hx,hx'⟩ := mem_pending (I.pend.mem_iff.1 hm);obtain ⟨j,hj⟩ := List.getElem?_of_mem hx;exact ⟨j,x,hj,hx'⟩
 have theirs:∀ i φ,[(i,φ)] ∈ ps -> ∃ v,cw[i]? = some v /\ notHole v = true /\ φ v noCells /\ ∃ j cj ej,cellsOf h ws (j + 1) C = some (true,.pending cj ej) /\ cj[i]? = some v /\ ∃ x,ws[j]? = some x /\ x.2.todo ≠ [] := by
  intro i φ hm;obtain ⟨j,x,hj,hx⟩ := promised i φ hm;obtain ⟨i',φ',cj,ej,v,n,a1,a2,a3,a4,a5,a6,_⟩ := worker j x hj (by rw [hx]; simp);rw [hx] at a1;cases a1;exact ⟨v,a4,a5,a6,j,cj,ej,by simp [cellsOf,hj,a2],a3,x,hj,by rw [hx]; simp⟩
 let D:Nat -> Prop := fun k => ∃ j x,k = j + 1 /\ ws[j]? = some x /\ x.2.todo ≠ [];have hD:∀ i,D i -> i ≠ 0 /\ i < ws.length + 1 /\ ∃ p,Done t i (stA Wg) (ownC (cellsOf h ws) C i) p := by
  rintro i ⟨j,x,rfl,hj,hne⟩;obtain ⟨_,_,_,_,_,_,_,_,_,_,_,_,_,h6⟩ := worker j x hj hne;exact ⟨by omega,Nat.succ_lt_succ (List.getElem?_eq_some_iff.1 hj).1,(((I.tr j x hj).2 hne).2 h6).done⟩
 have hcov:∀ (i:Nat) (v:Value),cw[i]? = some v -> notHole v = true /\ (c[i]? = some v \/ ∃ j b cj ej,D j /\ cellsOf h ws j C = some (b,.pending cj ej) /\ cj[i]? = some v) := by
  intro i v hv;have hlt:i < c.size := by rw [<- f2]; exact (Array.getElem?_eq_some_iff.1 hv).1
  have hci:c[i]? = some c[i] := Array.getElem?_eq_getElem hlt;rcases hfull i _ hci with hn | ⟨φ,hm⟩
  ·have := f3 i _ hci hn;rw [hv] at this; cases this;exact ⟨hn,.inl hci⟩
  ·obtain ⟨v',a1,a2,_,j,cj,ej,a3,a4,x,a5,a6⟩ := theirs i φ hm;rw [hv] at a1; cases a1;exact ⟨a2,.inr ⟨j + 1,true,cj,ej,⟨j,x,rfl,a5,a6⟩,a3,a4⟩⟩
 have d0:Deaf t 0 = 0 := I.deaf0;have hm := I.mem.join (a := stA Wg) (D := D) hD (fun e => e) d0 hop hC (cm := cw) f2 (fun i v hv _ => (hcov i v hv).2) (gone' := fun g => goneW ws g \/ D g) (fun _ => Iff.rfl);have big:∀ g,¬ (goneW ws g \/ D g) -> g = 0 \/ ws.length < g := by
  intro g hg;cases g with
  | zero => exact .inl rfl
  | succ g =>
   right;rcases Nat.lt_or_ge g ws.length with hlt | hge
   ·exfalso;apply hg;by_cases e0:ws[g].2.todo = []
    ·exact .inl ⟨ws[g],List.getElem?_eq_getElem hlt,e0⟩
    ·exact .inr ⟨g,ws[g],rfl,List.getElem?_eq_getElem hlt,e0⟩
   ·omega
 have hm2 := hm.redp (fun g hg => by
  rcases big g hg with rfl | hlt
  ·have := I.mem.ti.hears 0 (fun e => e);rw [<- this]; exact d0
  ·have hn:¬ goneW ws g := fun e => hg (.inl e);rw [<- I.mem.ti.hears g hn];exact Deaf_none fun op' hop' e => by have := I.mem.ti.who op' hop'; omega)
 have hj0:joined (cellsOf h ws) C D cw e 0 C = some (true,.pending cw e) := by rw [joined0,Cells.upd_self]
 have hjo:∀ j,j ≠ 0 -> joined (cellsOf h ws) C D cw e j C = none := by
  intro j hj;by_cases hDj:D j
  ·rw [joinedD hj hDj]; unfold withoutC; rw [if_pos rfl]
  ·rw [joinedN hj hDj];cases j with
   | zero => exact absurd rfl hj
   | succ j =>
    cases hx:ws[j]? with
    | none => simp [cellsOf,hx]
    | some x =>
     have h0:x.2.todo = [] := by
      apply Classical.byContradiction;intro hne; exact hDj ⟨j,x,rfl,hx,hne⟩
     simpa [cellsOf,hx] using I.oldC x (List.mem_of_getElem? hx) h0
 have unt:∀ o ∈ (#[op]:Trace),o.act.touch? = none := by
  intro o ho;simp only [List.mem_toArray,List.mem_cons,List.not_mem_nil,or_false] at ho;rw [ho,hop.2]; rfl
 obtain ⟨nC,⟨cC,eC,fC,q1,q2⟩,q3⟩ := I.outC;rw [f1] at q1; cases q1;have hown:∀ q p b,Touches (t ++ #[op]) p (C,q) b -> Knows (t ++ #[op]) p 0 := by
  intro q p b ht;by_cases ho:outK C nC (C,q)
  ·exact (q3 _ p b ho (ht.untouched unt)).append
  ·have:∃ i,q = some i /\ i < nC := by
    apply Classical.byContradiction;intro hn;refine ho ⟨rfl,fun i hi => ?_⟩;rcases Nat.lt_or_ge i nC with h1 | h1
    ·exact absurd ⟨i,hi,h1⟩ hn
    ·exact h1
   obtain ⟨i,rfl,hi⟩ := this;have hlt:i < cw.size := by omega
   have hv:cw[i]? = some cw[i] := Array.getElem?_eq_getElem hlt;exact hm2.ti.own 0 (C,some i) (holdsP_of (q := some i) hj0 (val_not_hole (e := e) hv (hcov i _ hv).1)) p b ht
 have hlow:n0 <= C := I.mem.low 0 C _ hC;have hM := hm2.toMem (fun _ => rfl) hj0 (fun i v hv => (hcov i v hv).1) hjo hlow hown;have hcells:(fun i => if i = 0 then (joined (cellsOf h ws) C D cw e 0).upd C (true,.cells cw e (0,0)) else joined (cellsOf h ws) C D cw e i) = cellsOf { get := h.get.upd C (true,.cells cw e (0,0)),chans := [],pend := [],todo := h.todo } (ws.map (strip C)) := by
  funext i;cases i with
  | zero =>
   simp only [if_true,joined0,cellsOf];funext r;unfold Cells.upd; by_cases er:r = C <;> simp [er,cellsOf]
  | succ i =>
   simp only [show ¬ (i + 1 = 0) by omega,if_false,cellsOf,List.getElem?_map];cases hx:ws[i]? with
   | none =>
    have:¬ D (i + 1) := by
     rintro ⟨j,x,e',hj,_⟩;cases e'; rw [hx] at hj; cases hj
    rw [joinedN (by omega) this]; simp [cellsOf,hx]
   | some x =>
    simp only [Option.map_some,strip];by_cases hDj:D (i + 1)
    ·rw [joinedD (by omega) hDj]; simp [cellsOf,hx]
    ·rw [joinedN (by omega) hDj];have h0:x.2.todo = [] := by
      apply Classical.byContradiction;intro hne; exact hDj ⟨i,x,rfl,hx,hne⟩
     have hn := I.oldC x (List.mem_of_getElem? hx) h0;funext r;unfold withoutC;by_cases er:r = C
     ·rw [if_pos er,er]; simp [cellsOf,hx,hn]
     ·rw [if_neg er]; simp [cellsOf,hx]
 rw [hcells] at hM;have hgone:(fun g => goneW ws g \/ D g) = goneW (ws.map (strip C)) := by
  funext g;apply propext;cases g with
  | zero =>
   constructor
   ·rintro (h1 | ⟨j,x,e',_⟩)
    ·exact h1
    ·cases e'
   ·intro h1; exact .inl h1
  | succ g =>
   constructor
   ·rintro (⟨x,hx,_⟩ | ⟨j,x,e',hx,_⟩)
    ·exact ⟨strip C x,by simp [hx],rfl⟩
    ·cases e'; exact ⟨strip C x,by simp [hx],rfl⟩
   ·rintro ⟨y,hy,_⟩;rw [List.getElem?_map] at hy;cases hx:ws[g]? with
    | none => rw [hx] at hy; cases hy
    | some x =>
     by_cases e0:x.2.todo = []
     ·exact .inl ⟨x,hx,e0⟩
     ·exact .inr ⟨g,x,rfl,hx,e0⟩
 rw [hgone] at hM;refine ⟨cw,⟨f2,f3,fun i φ hm => ?_⟩,_,⟨by rw [List.length_map]; exact hM,?_,?_,?_,?_⟩⟩
 ·obtain ⟨v,a1,a2,a3,_⟩ := theirs i φ hm;exact ⟨v,a1,a2,a3⟩
 ·intro x hx;obtain ⟨y,hy,rfl⟩ := List.mem_map.1 hx;have hst := I.st y hy;obtain ⟨j,hj⟩ := List.getElem?_of_mem hy;by_cases e0:y.2.todo = []
  ·cases hst with
   | old _ hq => exact .inl (.quit rfl hq)
   | work hne _ _ _ => exact absurd e0 hne
   | lib hk _ _ _ => exact absurd e0 hk.ne
  ·obtain ⟨_,_,_,_,_,n,_,_,_,_,_,_,hq,_⟩ := worker j y hj e0;exact .inl (.quit rfl hq)
 ·intro x hx y hy;obtain ⟨z,_,rfl⟩ := List.mem_map.1 hx;cases hy
 ·rw [pending_none];intro x hx;obtain ⟨z,_,rfl⟩ := List.mem_map.1 hx;rfl
 ·intro i x hx;rw [List.getElem?_map] at hx;cases hy:ws[i]? with
  | none => rw [hy] at hx; cases hx
  | some y =>
   rw [hy] at hx; cases hx;rw [Deaf_push];unfold deafStep;rw [hop.2];exact (I.tr i y hy).1
def TopL (P:Program) (n0:Nat) (w0:World) (Φ:Value -> World -> Prop) (ty:TypeId) (Wg:Nat) (g:Goroutine) (h:LH):Prop :=
 ∀ sy ws w sl t,Inv P sy n0 w0 h ws w t -> WgLive ty Wg w -> EndsWell P Φ (crowd (crew g ws) w sl) t
theorem topL_idle (hp:h.pend = []) {Stop:Goroutine -> World -> Prop} (K:∀ g,(∃ w,WgLive ty Wg w /\ Stop g w) -> Top P n0 w0 Φ g h):∀ (m:Nat) (g:Goroutine) (w:World),WgLive ty Wg w -> Goes P true (RM ty Wg) Go.ConcR.DC0 Stop m g w -> TopL P n0 w0 Φ ty Wg g h := by
 have stop:∀ g w,WgLive ty Wg w -> (∀ w₁,RM ty Wg w w₁ -> Stop g w₁) -> TopL P n0 w0 Φ ty Wg g h := fun g w hl hG sy ws w' sl t I _ => K g ⟨w,hl,hG w fun _ => hl⟩ sy ws w' sl t I;intro m
 induction m with
 | zero => intro g w hl hG; exact stop g w hl hG
 | succ m ihm =>
  intro g w hl hG;rcases hG with hG | ⟨hg,hG⟩
  ·exact stop g w hl hG
  intro sy ws w sl t hI hlw;have hgm:∀ x x' w',OpenAt h w' -> woken P x x' w' g = g := fun x x' w' _ => by
   unfold woken; split
   ·exact again_running _ (.inl hg)
   ·rfl
  have hS := Sys.all ws hI.wk
  induction hS generalizing w sl t with
  | mk ws K' hm hk ih =>
   obtain ⟨i,gi,d,sl',hget,hrun,hst⟩ := crowd_pick (P := P) (gs := crew g ws) (w := w) (sl := sl) (crew_awake (fun t e => by rw [hg] at e; cases e) hI.wk) ⟨0,g,crew_get0 g ws,hg⟩;have I := hI.at d;have hld:WgLive ty Wg (w.at d) := hlw;have h0:∀ x ∈ ws,x.2.todo = [] := by
    intro x hx;by_cases e:x.2.todo = []
    ·exact e
    ·have := hI.pend.mem_iff.2 (pending_mem e hx);rw [hp] at this; cases this
   cases i with
   | zero =>
    rw [crew_get0] at hget; cases hget;obtain ⟨g',w',es,a1,⟨a2,a3⟩,a4⟩ := goes_elim (hG (w.at d) fun _ => hld);subst a2 a3;refine EndsWell.next (hst.trans (runT_crowd_go (crew_get0 g ws) a1)) ?_;have ho:OpenAt h (w.at d) := I.mem.chan;rw [crew_woken I.wk I.scripts ho (hgm _ _ _ ho),crew_set0,ofEvents_nil,Array.append_empty];exact ihm g' (w.at d) hld a4 _ _ _ _ _ I hld
   | succ i =>
    rw [crew_get] at hget;cases hy:ws[i]? with
    | none => rw [hy] at hget; cases hget
    | some y =>
     rw [hy] at hget; cases hget;obtain ⟨gw,hw⟩ := y;have hlt:i < ws.length := (List.getElem?_eq_some_iff.1 hy).1;have hz := h0 _ (List.mem_of_getElem? hy);simp only at hrun hz;rcases hm i gw hw hy with ⟨fr,cs,N,_,hne,_⟩ | ⟨fr,cs,c,z,v,φ,s,hv,hr,_,hs,_⟩ | ⟨fr,cs,c,z,v,φ,s,hv,hr,_,hs,_⟩ | ⟨_,hf⟩ | ⟨_,_,n,g',es,hmu,hsg,hq',hK⟩
     ·exact absurd hz hne
     ·rw [hs.todo] at hz; cases hz
     ·rw [hs.todo] at hz; cases hz
     ·rw [hf] at hrun; cases hrun
     ·obtain ⟨ops,hr',I'⟩ := worker_quit (sl := sl') I hgm hy hz hmu hsg hq';exact EndsWell.next (hst.trans hr') (ih i _ _ hlt hK _ _ _ I' hld)
def LH.joined (h:LH) (C:Nat) (c':Array Value) (e:TypeId):LH := { get := h.get.upd C (true,.cells c' e (0,0)),chans := [],pend := [],todo := h.todo }
theorem topW_acq {Next:Goroutine -> World -> Prop} {g:Goroutine} {c:Array Value} {e:TypeId} (hC:h.get C = some (true,.pending c e)) (hfull:∀ (i:Nat) (v:Value),c[i]? = some v -> notHole v = true \/ ∃ φ,[(i,φ)] ∈ ps) (hA:∀ w,WgLive ty Wg w -> AtMark P (.acquire (stA Wg)) Next g w) (hl:∃ w,WgLive ty Wg w)
  (K:∀ g' w c',WgLive ty Wg w -> Next g' w -> Joined ps c c' -> TopL P n0 w0 Φ ty Wg g' (h.joined C c' e)):TopW P n0 w0 Φ ty C Wg .fin 0 ps g h := by
 obtain ⟨w₀,hl⟩ := hl;refine driveW (hA w₀ hl).1 fun sy ws w sl t I => ?_;obtain ⟨_,g',a1,a2⟩ := hA w I.live;refine ⟨_,_,main_go I.st a1,?_⟩;have e1:MemOp.ofEvents 0 g.frame.fn g.frame.place #[Go.ConcR.mk (.acquire (stA Wg))] = #[{ g := 0,fn := g.frame.fn,pos := g.frame.place,act := .mark (.acquire (stA Wg)) }] := by
  rw [ofEvents_eq]; simp [Go.ConcR.ofEvent_mk]
 rw [e1];obtain ⟨c',hJ,sy',I'⟩ := I.join hC hfull (op := { g := 0,fn := g.frame.fn,pos := g.frame.place,act := .mark (.acquire (stA Wg)) }) ⟨rfl,rfl⟩;rw [<- crew_strip (C := C)];exact K g' w c' I.live a2 hJ _ _ _ _ _ I' I.live
theorem topW_wait {L:WgLink} (H:WgLib P L) {cs:List Frame} {c:Array Value} {e:TypeId} (hC:h.get C = some (true,.pending c e)) (hfull:∀ (i:Nat) (v:Value),c[i]? = some v -> notHole v = true \/ ∃ φ,[(i,φ)] ∈ ps) (hl:∃ w,WgLive L.tWg Wg w)
  (K:∀ g c',RetOf L.wait cs g -> Joined ps c c' -> Top P n0 w0 Φ g (h.joined C c' e)) {g₀:Goroutine} (hg₀:∀ w,WgLive L.tWg Wg w -> Idle P L.tWg Wg (AtMark P .disable (Idle P L.tWg Wg fun g _ => Anch L Wg cs g)) g₀ w) (k:Nat) :
  TopW P n0 w0 Φ L.tWg C Wg (.opn k 0) 0 ps g₀ h := by
 obtain ⟨w₀,hl₀⟩ := hl;have hl:∃ w,WgLive L.tWg Wg w := ⟨w₀,hl₀⟩
 have join:∀ g w,WgLive L.tWg Wg w -> Idle P L.tWg Wg (AtJoin P L.tWg Wg cs L.wait) g w -> TopW P n0 w0 Φ L.tWg C Wg .fin 1 ps g h := by
  rintro g w hw ⟨m,hG⟩;refine topW_idle (fun g hE => ?_) m g w hw hG;refine topW_mark (m := .enable) (.inr (.inl rfl)) rfl hE hl fun g' w' hw' ⟨m',hG'⟩ => ?_;refine topW_idle (fun g hE => ?_) m' g' w' hw' hG';refine topW_acq hC hfull hE hl fun g'' w'' c' hw'' ⟨m'',hG''⟩ hJ => ?_;exact topL_idle rfl (fun g ⟨_,_,hR⟩ => K g c' hR hJ) m'' g'' w'' hw'' hG''
 have reg:∀ g w,WgLive L.tWg Wg w -> AtReg P L.tWg Wg cs L.wait g w -> TopW P n0 w0 Φ L.tWg C Wg .reg 1 ps g h := by
  rintro g w hw ⟨m,hG⟩;refine topW_idle (fun g hE => ?_) m g w hw hG;refine topW_mark (m := .write (smA Wg)) (.inr (.inr (.inr (.inr (.inr ⟨rfl,_,.inr rfl,rfl⟩))))) rfl hE hl fun g' w' hw' ⟨m',hG'⟩ => ?_;refine topW_idle (fun g hE => ?_) m' g' w' hw' hG';refine topW_sem hE hl fun g'' w'' hw'' ⟨m'',hG''⟩ => ?_;refine topW_idle (fun g hE => ?_) m'' g'' w'' hw'' hG'';refine topW_sync (hE w₀ hl₀).1 fun w st sm ws h1 h2 _ => ?_;cases h2 with
  | fin a =>
   obtain ⟨_,b⟩ := hE w ⟨_,_,h1⟩;obtain ⟨g',b1,b2⟩ := b h1;exact ⟨.fin,1,g',w,_,b1,libE_rd,aside_refl w,rfl,⟨0,0,h1,.fin a⟩,join g' w ⟨_,_,h1⟩ b2⟩
 have loop:∀ k g,Anch L Wg cs g -> TopW P n0 w0 Φ L.tWg C Wg (.opn k 0) 1 ps g h := by
  intro k
  induction k using Nat.strongRecOn with
  | _ k ih =>
   intro g hA;obtain ⟨m,hG⟩ := waitRound H g hA w₀ hl₀;refine topW_idle (fun g hE => ?_) m g w₀ hl₀ hG;refine topW_sync (hE w₀ hl₀).1 fun w st sm ws h1 h2 hV => ?_;cases h2 with
   | opn a b c' =>
    have e1:((Vw ws:Int) + ((0:Nat):Int)) * KK = (Vw ws:Int) * KK := by simp
    have h1' := h1;rw [e1] at h1';obtain ⟨_,hE'⟩ := hE w ⟨_,_,h1⟩;obtain ⟨g',a1,n0',n1'⟩ := hE' (Vw ws) (by omega) h1';by_cases e0:Vw ws = 0
    ·refine ⟨.fin,1,g',w,_,a1,libE_rd,aside_refl w,rfl,⟨0,0,by rw [e0] at h1'; simpa using h1',.fin fun x hx => ?_⟩,join g' w ⟨_,_,h1⟩ (n0' e0)⟩;have := a x hx;rcases Nat.lt_or_ge (stg x.2) 5 with h5 | h5
     ·omega
     ·exfalso;obtain ⟨j,hj⟩ := List.getElem?_of_mem hx;have h6 := le_Vw hj;have h7:cntW x.2 = 1 := by unfold cntW; rw [if_pos h5]
      omega
    ·refine ⟨.opn (Vw ws) 0,1,g',w,_,a1,libE_rd,aside_refl w,rfl,⟨_,0,h1,.opn a (Nat.le_refl _) (by omega)⟩,?_⟩;generalize hv:Vw ws = v at *;obtain ⟨m',hG'⟩ := n1' e0;refine topW_idle (fun g hE => ?_) m' g' w ⟨_,_,h1⟩ hG';refine topW_sync (hE w₀ hl₀).1 fun w2 st2 sm2 ws2 g1 g2 hV2 => ?_;cases g2 with
     | opn a2 b2 c2 =>
      have e2:((Vw ws2:Int) + ((0:Nat):Int)) * KK = (Vw ws2:Int) * KK := by simp
      have g1' := g1;rw [e2] at g1';obtain ⟨_,hE2⟩ := hE w2 ⟨_,_,g1⟩;obtain ⟨hit,miss⟩ := hE2 (Vw ws2) (by omega) g1';by_cases ev:Vw ws2 = v
      ·obtain ⟨g2',x1,x2⟩ := hit ev;have g3 := g1'.setSt ((Vw ws2:Int) * KK + 1);exact ⟨.reg,1,g2',_,_,x1,libE_cells,aside_setCell w2 (stA Wg) _,rfl,⟨_,0,g3,.reg a2 (by omega)⟩,reg g2' _ ⟨_,_,g3⟩ x2⟩
      ·obtain ⟨g2',x1,m3,x2⟩ := miss ev;refine ⟨.opn (Vw ws2) 0,1,g2',w2,_,x1,libE_rd,aside_refl w2,rfl,⟨_,0,g1,.opn a2 (Nat.le_refl _) (by omega)⟩,?_⟩;exact topW_idle (fun g hE => ih (Vw ws2) (by omega) g (hE w₀ hl₀)) m3 g2' w2 ⟨_,_,g1⟩ x2
 obtain ⟨m,hG⟩ := hg₀ w₀ hl₀;refine topW_idle (fun g hE => ?_) m g₀ w₀ hl₀ hG;refine topW_mark (m := .disable) (.inl rfl) rfl hE hl fun g' w' hw' ⟨m',hG'⟩ => ?_;exact topW_idle (fun g hE => loop k g (hE w₀ hl₀)) m' g' w' hw' hG'
end
section
open Go Go.Conc
open Go.ConcR (KK wgBlock WgAt stA smA rd wr)
open Go.ConcN (WgLive)
open Go.Conc.Lib Go.RowKit Go.ConcR.Gen
open WgW
structure Gives (C:Nat) (F:Nat -> Bool) (k hc:Cells) (c cc c1:Array Value) (e:TypeId):Prop where
 reads:∀ r x,r ≠ C -> hc r = some x -> x.1 = false /\ freezeC F k r = some x
 have0:k C = some (true,.pending c e)
 hasC:hc C = some (true,.pending cc e)
 size:cc.size = c.size
 size1:c1.size = c.size
 part:∀ (i:Nat) (v:Value),cc[i]? = some v -> notHole v = true -> c[i]? = some v /\ isHole (.pending c1 e) i
 rest:∀ (i:Nat) (v:Value),c1[i]? = some v -> notHole v = true -> c[i]? = some v
def XG (L:WgLink):XP where
 cond P main R := XT.cond P main R /\
  (∀ fr cs h C Wg c e,h.chans = [] -> h.pend = [] -> C ≠ Wg -> h.get C = some (true,.cells c e (0,0)) -> (∀ (i:Nat) (v:Value),c[i]? = some v -> notHole v = true) -> h.get Wg = some (true,wgBlock L.tWg 0 0) ->
   R (G fr cs) { h with get := partedW h.get C Wg c e,chans := [C,Wg,0],pend := [[]] } -> R (G fr cs) h) /\
  (∀ cs h C Wg ps,h.chans = [C,Wg,0] -> h.pend = [] :: ps -> (∀ g,RetOf L.add cs g -> R g { h with chans := [C,Wg,1] }) -> R (G (Frame.enter P L.add #[.pointer (some ⟨Wg,0,none⟩),.int .i64 1] .normal) cs) h) /\
  (∀ fr cs h C Wg ps F hc df c cc c1 e j φ,Spawns P fr cs df -> h.chans = [C,Wg,1] -> h.pend = [] :: ps -> ps.length + 1 < 2147483646 -> Gives C F h.get hc c cc c1 e ->
   WkG P L.tWg Wg C (G (baseOf P [df]) []) ⟨hc,[],List.replicate 7 [],[(j,φ)]⟩ -> R (G (fr.finish undef) cs) { h with get := keepC F h.get C c1 e,chans := [C,Wg,0],pend := [] :: (ps ++ [[(j,φ)]]) } -> R (G fr cs) h) /\
  (∀ cs h C Wg ps c e,h.chans = [C,Wg,0] -> h.pend = [] :: ps -> h.get C = some (true,.pending c e) -> (∀ (i:Nat) (v:Value),c[i]? = some v -> notHole v = true \/ ∃ φ,[(i,φ)] ∈ ps) ->
   (∀ g c',RetOf L.wait cs g -> Joined ps c c' -> R g (h.joined C c' e)) -> R (G (Frame.enter P L.wait #[.pointer (some ⟨Wg,0,none⟩)] .normal) cs) h)
 stk _ _ _ := True
variable {P:Program} {Φ:Value -> World -> Prop} {L:WgLink}
theorem partedW_add {a k:Cells} {C Wg:Nat} {c:Array Value} {e:TypeId} (hC:k C = none) (hW:k Wg = none):partedW (a.add k) C Wg c e = (partedW a C Wg c e).add k := by
 funext r;unfold partedW Cells.add;by_cases e1:r = C
 ·subst e1; simp
 ·by_cases e2:r = Wg
  ·subst e2; simp [e1,hW]
  ·simp [e1,e2]
theorem keepC_add {F:Nat -> Bool} {a k:Cells} {C:Nat} {c1:Array Value} {e:TypeId}:keepC (fun r => F r && (a r).isSome) (a.add k) C c1 e = (keepC F a C c1 e).add k := by
 funext r;unfold keepC;by_cases e1:r = C
 ·subst e1; simp [Cells.add]
 ·have := congrFun (freezeC_add F a k) r;simp only [e1,if_false,this];unfold Cells.add;simp [e1]
theorem disj_at {a k:Cells} (d:Disj a k) {r:Nat} {x:Bool × Obj} (h:a r = some x):k r = none := by
 rcases d r with h' | h'
 ·rw [h] at h'; cases h'
 ·exact h'
theorem Disj.of_sub {a b k:Cells} (d:Disj a k) (hs:∀ r,a r = none -> b r = none):Disj b k := fun r => (d r).imp_left (hs r)
theorem LH.add_noneW (h:LH):h.add (fun _ => none) = h := by
 unfold LH.add;congr 1;funext r;unfold Cells.add;cases h.get r <;> rfl
theorem XG_ok:XOK (XG L) where
 frame P main R k hR hc := by
  obtain ⟨h0,h1,h2,h3,h4⟩ := hc;refine ⟨XT_ok.frame P main R k hR h0,?_,?_,?_,?_⟩
  ·intro fr cs h C Wg c e a1 a2 a3 a4 a5 a6 hn d;refine h1 fr cs (h.add k) C Wg c e a1 a2 a3 (Cells.add_left a4) a5 (Cells.add_left a6) ?_;have kC := disj_at d a4;have kW := disj_at d a6;have := hn (d.of_sub fun r hr => by
    show partedW h.get C Wg c e r = none;unfold partedW;rw [if_neg (fun e' => by subst e'; rw [a4] at hr; cases hr),if_neg (fun e' => by subst e'; rw [a6] at hr; cases hr)]; exact hr)
   unfold LH.add at this ⊢;simp only [partedW_add kC kW] at this ⊢;exact this
  ·intro cs h C Wg ps a1 a2 hn d;exact h2 cs (h.add k) C Wg ps a1 a2 fun g hg => hn g hg d
  ·intro fr cs h C Wg ps F hc df c cc c1 e j φ a1 a2 a3 a4 a5 a6 hn d;refine h3 fr cs (h.add k) C Wg ps (fun r => F r && (h.get r).isSome) hc df c cc c1 e j φ a1 a2 a3 a4 ⟨?_,Cells.add_left a5.have0,a5.hasC,a5.size,a5.size1,a5.part,a5.rest⟩ a6 ?_
   ·intro r x hr hx;obtain ⟨b1,b2⟩ := a5.reads r x hr hx;refine ⟨b1,?_⟩;show freezeC _ (h.get.add k) r = _;rw [freezeC_add]; exact Cells.add_left b2
   ·have := hn (d.of_sub fun r hr => by
     show keepC F h.get C c1 e r = none;unfold keepC;rw [if_neg (fun e' => by subst e'; rw [a5.have0] at hr; cases hr)];simp only [freezeC,hr])
    unfold LH.add at this ⊢;simp only [keepC_add] at this ⊢;exact this
  ·intro cs h C Wg ps c e a1 a2 a3 a4 hn d;refine h4 cs (h.add k) C Wg ps c e a1 a2 (Cells.add_left a3) a4 fun g c' hg hJ => ?_;have kC := disj_at d a3;have := hn g c' hg hJ (d.of_sub fun r hr => by
    show h.get.upd C _ r = none;rw [Cells.upd_ne _ _ (fun e' => by subst e'; rw [a3] at hr; cases hr)]; exact hr)
   have e1:(h.add k).joined C c' e = (h.joined C c' e).add k := by
    unfold LH.joined LH.add;simp only [upd_add]
   rw [e1]; exact this
 stk P cs := trivial
/-! ### It is paid for -/
def TopX (P:Program) (n0:Nat) (w0:World) (Φ:Value -> World -> Prop) (ty:TypeId) (g:Goroutine) (h:LH):Prop :=
 ([] ∉ h.pend -> Top P n0 w0 Φ g h) /\ ∀ C Wg p ps,h.chans = [C,Wg,p] -> h.pend = [] :: ps -> ∀ k,TopW P n0 w0 Φ ty C Wg (.opn k p) 0 ps g h
theorem MemW.less {sy:Sy} {n0:Nat} {w0:World} {C:Nat} {cs:Nat -> Cells} {ng:Nat} {gone:Nat -> Prop} {w:World} {t:Trace} (m:MemW sy n0 w0 C cs ng gone w t) {k:Cells} (hk:∀ r x,k r = some x -> cs 0 r = some x):MemW sy n0 w0 C (fun i => if i = 0 then k else cs i) ng gone w t := by
 have sub:∀ i r x,(fun i => if i = 0 then k else cs i) i r = some x -> cs i r = some x := by
  intro i r x hx;by_cases e:i = 0
  ·subst e; simp only [if_true] at hx; exact hk r x hx
  ·simp only [e,if_false] at hx; exact hx
 have hold:∀ i k' b,holdsP (fun i => if i = 0 then k else cs i) i k' = some b -> holdsP cs i k' = some b := by
  intro i k' b hb;obtain ⟨x,hx,hn,hb'⟩ := holdsP_inv hb;obtain ⟨r,q⟩ := k';rw [holdsP_of (sub i r x hx) hn,hb']
 refine ⟨fun i r b o hr => m.fits i r b o (sub i r _ hr),fun i b o hr => m.part i b o (sub i C _ hr),fun i r b o hC hr => m.whole i r b o hC (sub i r _ hr),?_,?_,m.cl,?_,m.pos,m.base,fun i r o hr => m.low i r o (sub i r _ hr),m.size,m.os,m.tape,m.output⟩
 ·refine m.ti.mono (Nat.le_refl _) (Nat.le_refl _) (fun _ => Iff.rfl) (fun i k' b hb => ⟨b,hold i k' b hb,id⟩) ?_;intro i j k' hij hb;cases h':holdsP (fun i => if i = 0 then k else cs i) j k' with
  | none => rfl
  | some b =>
   have h2 := hold j k' b h';rw [m.ti.excl i j k' hij (hold i k' true hb)] at h2; cases h2
 ·intro r hr i;cases hx:(fun i => if i = 0 then k else cs i) i r with
  | none => exact hx
  | some x => have := sub i r x hx; rw [m.off r hr i] at this; cases this
 ·intro i hi r;cases hx:(fun i => if i = 0 then k else cs i) i r with
  | none => exact hx
  | some x => have := sub i r x hx; rw [m.out i hi r] at this; cases this
theorem topW_up {ty:TypeId} {C Wg:Nat} {md:MT} {d:Nat} {n0:Nat} {w0:World} {ps:List Script} {g:Goroutine} {h h':LH} (hT:TopW P n0 w0 Φ ty C Wg md d ps g h) (hs:∀ r x,h.get r = some x -> h'.get r = some x):TopW P n0 w0 Φ ty C Wg md d ps g h' := by
 intro sy ws w sl t I;have hm := I.mem.less (k := h.get) hs;have hcs:(fun i => if i = 0 then h.get else cellsOf h' ws i) = cellsOf h ws := by
  funext i;cases i <;> simp [cellsOf]
 rw [hcs] at hm;refine hT sy ws w sl t ⟨hm,I.wg,I.st,fun i x hx => ?_,I.pend,I.small,I.deaf0,I.mode,I.oldC,I.spC,I.outC⟩;obtain ⟨a1,a2⟩ := I.tr i x hx;refine ⟨a1,fun hne => ⟨(a2 hne).1,fun h6 => ?_⟩⟩;have e:ownC (cellsOf h ws) C (i + 1) = ownC (cellsOf h' ws) C (i + 1) := by
  funext k; unfold ownC holdsP; rfl
 rw [e]; exact (a2 hne).2 h6
set_option maxRecDepth 100000 in
theorem add_enter (H:WgLib P L) (Wg:Nat):Frame.enter P L.add #[.pointer (some ⟨Wg,0,none⟩),.int .i64 1] .normal = (base L.add).at ⟨#[.pointer (some ⟨Wg,0,none⟩),.int .i64 1,undef,undef,undef,undef,undef,undef,undef,undef,undef,undef,undef,undef,undef,undef,undef,undef,undef,undef,undef,undef,undef,undef,undef,undef,undef,undef,undef,undef,undef,undef,undef,undef,undef,undef,undef,undef,undef,undef,undef,undef,undef,undef,undef,undef,undef,undef,undef,undef,undef,undef,undef,undef,undef,undef,undef,undef,undef,undef,undef,undef,undef,undef,undef,undef,undef,undef,undef,undef,undef,undef,undef,undef,undef,undef,undef,undef,undef,undef,undef,undef,undef,undef,undef,undef,undef,undef,undef,undef,undef,undef,undef,undef,undef,undef,undef,undef,undef,undef,undef,undef,undef,undef,undef,undef,undef,undef,undef,undef,undef,undef,undef,undef,undef,undef,undef],[]⟩ [.code (body_add L)] := by
 rw [enter_at (c := body_add L) _ H.f_add rfl]
 walk_nrmf addFn
set_option maxRecDepth 100000 in
theorem wait_enter (H:WgLib P L) (Wg:Nat):Frame.enter P L.wait #[.pointer (some ⟨Wg,0,none⟩)] .normal = (base L.wait).at ⟨#[.pointer (some ⟨Wg,0,none⟩),undef,undef,undef,undef,undef,undef,undef,undef,undef,undef,undef,undef,undef,undef,undef,undef,undef,undef,undef,undef,undef,undef,undef,undef,undef,undef,undef,undef,undef,undef,undef,undef,undef,undef,undef,undef,undef,undef,undef,undef,undef,undef,undef,undef,undef,undef,undef,undef,undef,undef,undef,undef,undef,undef,undef,undef,undef,undef,undef,undef,undef,undef,undef,undef,undef,undef,undef,undef,undef,undef,undef,undef,undef,undef,undef,undef,undef,undef,undef,undef,undef,undef,undef],[]⟩ [.code (body_wait L)] := by
 rw [enter_at (c := body_wait L) _ H.f_wait rfl]
 walk_nrmf waitFn
set_option maxRecDepth 100000 in
theorem topX_closed (H:WgLib P L) (n0:Nat) (w0:World) (Φ:Value -> World -> Prop):Closed (XG L) P true (TopX P n0 w0 Φ L.tWg) := by
 have nilIn:∀ {ps:List Script},[] ∉ ([] :: ps:List Script) -> False := fun h => h List.mem_cons_self;refine ⟨⟨?_,?_⟩,⟨rfl,?_,?_,?_,?_⟩,?_,?_,?_,?_⟩
 ·intro fr cs h N hs hN;have hs':LStep P true (G fr cs) h fun g' h' => N g' h' /\ h'.chans = h.chans /\ h'.pend = h.pend := by
   intro w hf;obtain ⟨g',w',es,h',a1,a2,a3,a4⟩ := hs w hf;exact ⟨g',w',es,h',a1,a2,a3,a4,rfl,rfl⟩
  refine ⟨fun hp => top_step hs' fun g' h' hn => (hN g' h' hn.1).1 (by rw [hn.2.2]; exact hp),fun C Wg p ps e1 e2 k => topW_step hs' fun g' h' hn => (hN g' h' hn.1).2 C Wg p ps (by rw [hn.2.1]; exact e1) (by rw [hn.2.2]; exact e2) k⟩
 ·intro g h k hT d;exact ⟨fun hp => top_up (hT.1 hp) d,fun C Wg p ps e1 e2 k' => topW_up (hT.2 C Wg p ps e1 e2 k') fun r x hx => Cells.add_left hx⟩
 ·intro fr cs cases shape h hr hs;have heads:∀ s ∈ h.pend,s ≠ [] := fun s hs' => by
   obtain ⟨c,φ,s',k,z,e,_⟩ := hr.heads s hs';rw [e]; simp
  refine ⟨fun hp => top_recv hr fun pre φ s post k c v hv z hpp hcase hd hown hφ => (hs pre φ s post k c v hv z hpp hcase hd hown hφ).1 ?_,fun C Wg p ps _ e2 => absurd rfl (heads [] (by rw [e2]; exact List.mem_cons_self))⟩;intro hin;apply hp;rw [hpp];rcases List.mem_append.1 hin with hin | hin
  ·exact List.mem_append_left _ hin
  ·refine List.mem_append_right _ (List.mem_cons_of_mem _ ?_);cases s with
   | nil => exact hin
   | cons a s =>
    rcases List.mem_cons.1 hin with e | hin
    ·cases e
    ·exact hin
 ·intro fr cs h F hc d s hsp hhc hne hgu hch hw hn;refine ⟨fun _ => top_spawn hsp hhc hne hch hw (hn.1 ?_),fun C Wg p ps _ e2 => (nilIn (by rw [<- e2]; exact hgu)).elim⟩;intro hin;rcases List.mem_append.1 hin with hin | hin
  ·exact hgu hin
  ·exact hne (List.mem_singleton.1 hin).symm
 ·intro g h c s hgu hs hn;exact ⟨fun _ => top_open hs (hn.1 hgu),fun C Wg p ps _ e2 => (nilIn (by rw [<- e2]; exact hgu)).elim⟩
 ·intro g h c hc hp hn;exact ⟨fun _ => top_close hc hp fun hcn s => (hn hcn s).1 (by show [] ∉ h.pend; rw [hp]; simp),fun C Wg p ps _ e2 => by rw [hp] at e2; cases e2⟩
 ·intro fr cs h C Wg c e a1 a2 a3 a4 a5 a6 hn;exact ⟨fun _ => top_begin a1 a2 a3 a4 a5 a6 (h' := { h with get := partedW h.get C Wg c e,chans := [C,Wg,0],pend := [[]] }) rfl (hn.2 C Wg 0 [] rfl rfl),fun C Wg p ps _ e2 => by rw [a2] at e2; cases e2⟩
 ·intro cs h C Wg ps a1 a2 hn;refine ⟨fun hp => (nilIn (by rw [<- a2]; exact hp)).elim,fun C' Wg' p' ps' e1 e2 k => ?_⟩;rw [a1] at e1; rw [a2] at e2;cases e1; cases e2;intro sy ws w sl t I;refine topW_addW (k := k) H ⟨w,I.live⟩ (fun w hw => by rw [add_enter H]; exact addW H w hw) (fun g hg => ?_) sy ws w sl t I;exact topW_up ((hn g hg).2 C Wg 1 ps rfl a2 k) fun r x hx => hx
 ·intro fr cs h C Wg ps F hc df c cc c1 e j φ a1 a2 a3 a4 a5 a6 hn;refine ⟨fun hp => (nilIn (by rw [<- a3]; exact hp)).elim,fun C' Wg' p' ps' e1 e2 k => ?_⟩;rw [a2] at e1; rw [a3] at e2;cases e1; cases e2;exact topW_spawn a1 a5.reads a5.have0 a5.hasC a5.size a5.size1 a5.part a5.rest a6 a4 (h' := { h with get := keepC F h.get C c1 e,chans := [C,Wg,0],pend := [] :: (ps ++ [[(j,φ)]]) }) rfl (hn.2 C Wg 0 _ rfl rfl) k
 ·intro cs h C Wg ps c e a1 a2 a3 a4 hn;refine ⟨fun hp => (nilIn (by rw [<- a2]; exact hp)).elim,fun C' Wg' p' ps' e1 e2 k => ?_⟩;rw [a1] at e1; rw [a2] at e2;cases e1; cases e2;intro sy ws w sl t I;exact topW_wait H a3 a4 ⟨w,I.live⟩ (fun g c' hg hJ => (hn g c' hg hJ).1 (by show [] ∉ ([]:List Script); simp)) (fun w hw => by rw [wait_enter H]; exact waitStart H w hw) k sy ws w sl t I
theorem run_wellG (H:WgLib P L) {f:FuncId} {args:Array Value} {get:Cells} {w0:World} {Q:Value -> LH -> Prop} (hF:Fits get w0) (hno:∀ r x,get r = some x -> x.1 = false) (hwh:∀ r b o,get r = some (b,o) -> ∀ i,¬ isHole o i) (hin:P.inits.idxOf? f = none)
  (c:FWK (XG L) P .normal f args ⟨get,[],[],[]⟩ Q) (hQ:∀ v h',Q v h' -> h'.pend = [] /\ ∀ w',Fits h'.get w' -> KeptW w0.heap.size w0 w' -> Φ v w'):EndsWell P Φ (solo (G (Frame.enter P f args .normal) []) w0) #[] := by
 have hT:TopX P w0.heap.size w0 Φ L.tWg (G (Frame.enter P f args .normal) []) ⟨get,[],[],[]⟩ := by
  refine c.2 true _ (topX_closed H _ w0 Φ) [] trivial ?_;intro fr v h' k hfn d hr hq;obtain ⟨hp,hΦ⟩ := hQ v h' hq;refine ⟨fun _ => top_ret (h := h'.add k) hr (by rw [hfn]; exact hin) hp fun w' hf hk => hΦ w' hf.left hk,fun C Wg p ps _ e2 => ?_⟩;rw [show (h'.add k).pend = h'.pend from rfl,hp] at e2; cases e2
 exact top_start hF hno hwh (hT.1 (by simp))
/-! ### Contracts withoutC groups hold with groups -/
theorem XG_up {main:Bool} {R:Goroutine -> LH -> Prop} (c:Closed (XG L) P main R):Closed XT P main R := ⟨c.1,c.2.1⟩
theorem FW.up {kd:CallKind} {f:FuncId} {args:Array Value} {h:LH} {Q:Value -> LH -> Prop} (c:FWK XT P kd f args h Q):FWK (XG L) P kd f args h Q := ⟨c.1,fun main R hR cs _ hk => c.2 main R (XG_up hR) cs trivial hk⟩
end
section
open Go Go.Conc
open Go.ConcR (KK wgBlock WgAt stA smA rd wr Payload DC0)
open Go.ConcN (WgLive RW DWs AtR0 AtK1 AtD1 AtD2 AtD3 AtD4 Has)
open Go.Conc.Lib Go.RowKit Go.ConcR.Gen Go.ConcN.Gen
open WgW
variable {P:Program} {L:WgLink} {ty:TypeId} {Wg:Nat}
section
@[reducible] def payOf (ty:TypeId):Payload := ⟨ty⟩
abbrev RWg (ty:TypeId) (Wg:Nat):World -> World -> Prop := @RW (payOf ty) ty Wg Wg 2 0 1
theorem rwg {w w₁:World} (h:W0 ty Wg w) (h₁:W0 ty Wg w₁):RWg ty Wg w w₁ := by
 obtain ⟨st,h⟩ := h;obtain ⟨st₁,h₁⟩ := h₁
 letI := payOf ty
 exact ⟨fun b hb => absurd hb (Nat.not_lt_zero b),fun _ => ⟨st₁,0,h₁⟩,fun _ => ⟨_,h₁,rfl⟩,(WgAt.cellSm h₁).trans (WgAt.cellSm h).symm⟩
theorem life2:∀ (m:Nat) (g:Goroutine) (w:World),W0 ty Wg w -> Goes P false (RWg ty Wg) DC0 (AtD4 P ty Wg) m g w -> Life P ty Wg 2 1 g := by
 have stop:∀ (g:Goroutine) (w:World),W0 ty Wg w -> (∀ w₁,RWg ty Wg w w₁ -> AtD4 P ty Wg g w₁) -> Life P ty Wg 2 1 g := by
  intro g w hw hG;obtain ⟨hr,hm,_⟩ := hG w (rwg hw hw);refine Life.sem' hr hm fun w₁ h₁ => ?_;obtain ⟨_,_,h3⟩ := hG w₁ (rwg hw ⟨_,h₁⟩);obtain ⟨g',a1,q,a2⟩ := h3 h₁;exact ⟨g',a1,.quit a2⟩
 intro m
 induction m with
 | zero => intro g w hw hG; exact stop g w hw hG
 | succ m ih =>
  intro g w hw hG;rcases hG with hG | ⟨hr,hG⟩
  ·exact stop g w hw hG
  ·refine Life.idle' (by omega) (by omega) hr fun w₁ h₁ => ?_;obtain ⟨g',w',es,a1,⟨a2,a3⟩,a4⟩ := goes_elim (hG w₁ (rwg hw h₁));subst a2 a3;exact ⟨g',a1,ih g' w' h₁ a4⟩
theorem life3:∀ (m:Nat) (g:Goroutine) (w:World),W0 ty Wg w -> Goes P false (RWg ty Wg) DC0 (@AtD3 (payOf ty) P ty Wg Wg 2 0 2) m g w -> Life P ty Wg 3 1 g := by
 have stop:∀ (g:Goroutine) (w:World),W0 ty Wg w -> (∀ w₁,RWg ty Wg w w₁ -> @AtD3 (payOf ty) P ty Wg Wg 2 0 2 g w₁) -> Life P ty Wg 3 1 g := by
  intro g w hw hG;obtain ⟨hr,_⟩ := hG w (rwg hw hw);refine Life.store' hr fun w₁ h₁ => ?_;obtain ⟨_,h3⟩ := hG w₁ (rwg hw ⟨_,h₁⟩);obtain ⟨g',a1,m,a2⟩ := h3 h₁;exact ⟨g',a1,life2 m g' _ ⟨0,h₁.setSt 0⟩ a2⟩
 intro m
 induction m with
 | zero => intro g w hw hG; exact stop g w hw hG
 | succ m ih =>
  intro g w hw hG;rcases hG with hG | ⟨hr,hG⟩
  ·exact stop g w hw hG
  ·refine Life.idle' (by omega) (by omega) hr fun w₁ h₁ => ?_;obtain ⟨g',w',es,a1,⟨a2,a3⟩,a4⟩ := goes_elim (hG w₁ (rwg hw h₁));subst a2 a3;exact ⟨g',a1,ih g' w' h₁ a4⟩
theorem life4:∀ (m:Nat) (g:Goroutine) (w:World),W0 ty Wg w -> Goes P false (RWg ty Wg) DC0 (@AtD2 (payOf ty) P ty Wg Wg 2 0 2) m g w -> Life P ty Wg 4 1 g := by
 have stop:∀ (g:Goroutine) (w:World),W0 ty Wg w -> (∀ w₁,RWg ty Wg w w₁ -> @AtD2 (payOf ty) P ty Wg Wg 2 0 2 g w₁) -> Life P ty Wg 4 1 g := by
  intro g w hw hG;obtain ⟨hr,_⟩ := hG w (rwg hw hw);refine Life.load' hr fun w₁ h₁ => ?_;obtain ⟨_,h3⟩ := hG w₁ (rwg hw ⟨_,h₁⟩);obtain ⟨g',a1,m,a2⟩ := h3 h₁;exact ⟨g',a1,life3 m g' _ ⟨1,h₁⟩ a2⟩
 intro m
 induction m with
 | zero => intro g w hw hG; exact stop g w hw hG
 | succ m ih =>
  intro g w hw hG;rcases hG with hG | ⟨hr,hG⟩
  ·exact stop g w hw hG
  ·refine Life.idle' (by omega) (by omega) hr fun w₁ h₁ => ?_;obtain ⟨g',w',es,a1,⟨a2,a3⟩,a4⟩ := goes_elim (hG w₁ (rwg hw h₁));subst a2 a3;exact ⟨g',a1,ih g' w' h₁ a4⟩
theorem life5:∀ (m:Nat) (g:Goroutine) (w:World),W0 ty Wg w -> Goes P false (RWg ty Wg) DC0 (@AtD1 (payOf ty) P ty Wg Wg 2 0 2) m g w -> Life P ty Wg 5 1 g := by
 have stop:∀ (g:Goroutine) (w:World),W0 ty Wg w -> (∀ w₁,RWg ty Wg w w₁ -> @AtD1 (payOf ty) P ty Wg Wg 2 0 2 g w₁) -> Life P ty Wg 5 1 g := by
  intro g w hw hG;obtain ⟨hr,_⟩ := hG w (rwg hw hw);refine Life.add' hr fun v wt w₁ b1 b2 h₁ => ?_;obtain ⟨_,h3⟩ := hG w₁ (rwg hw ⟨_,h₁⟩);obtain ⟨g',a1,a2,a3⟩ := h3 v wt b1 b2 h₁;refine ⟨g',a1,fun e => ?_,fun e => ?_⟩
  ·obtain ⟨m,a4⟩ := a2 e;exact life4 m g' _ ⟨_,h₁.setSt _⟩ a4
  ·obtain ⟨q,a4⟩ := a3 e;exact .quit a4
 intro m
 induction m with
 | zero => intro g w hw hG; exact stop g w hw hG
 | succ m ih =>
  intro g w hw hG;rcases hG with hG | ⟨hr,hG⟩
  ·exact stop g w hw hG
  ·refine Life.idle' (by omega) (by omega) hr fun w₁ h₁ => ?_;obtain ⟨g',w',es,a1,⟨a2,a3⟩,a4⟩ := goes_elim (hG w₁ (rwg hw h₁));subst a2 a3;exact ⟨g',a1,ih g' w' h₁ a4⟩
abbrev Idl (P:Program) (ty:TypeId) (Wg:Nat) (Stop:Goroutine -> World -> Prop) (g:Goroutine) (w:World):Prop := ∃ m,Goes P false (RM ty Wg) DC0 Stop m g w
def AtMk (P:Program) (m:Mark) (Next:Goroutine -> World -> Prop) (g:Goroutine) (w:World):Prop := g.status = .running /\ ∃ g',stepG P false g w = .go g' w #[Go.ConcR.mk m] /\ Next g' w
def noL:Nat -> Loc -> Prop := fun _ _ => False
theorem go_inj {g g':Goroutine} {w w':World} {es es':Array Event} {x:Goroutine} {u:World} (h:stepG P false x u = .go g w es) (h':stepG P false x u = .go g' w' es'):g = g' /\ w = w' /\ es = es' := by
 rw [h] at h'; cases h'; exact ⟨rfl,rfl,rfl⟩
theorem life6:∀ (m:Nat) (g:Goroutine) (w:World),W0 ty Wg w -> Goes P false (RM ty Wg) DC0 (AtMk P .disable fun _ _ => True) m g w -> ∀ k w',W0 ty Wg w' -> Goes P false (RWg ty Wg) DC0 (@AtK1 (payOf ty) P ty Wg Wg 2 0 2) k g w' -> Life P ty Wg 6 0 g := by
 have live:∀ {w:World},W0 ty Wg w -> WgLive ty Wg w := fun ⟨st,h⟩ => ⟨st,0,h⟩;have stop:∀ (g:Goroutine) (w:World),W0 ty Wg w -> (∀ w₁,RM ty Wg w w₁ -> AtMk P .disable (fun _ _ => True) g w₁) -> ∀ k w',W0 ty Wg w' -> Goes P false (RWg ty Wg) DC0 (@AtK1 (payOf ty) P ty Wg Wg 2 0 2) k g w' -> Life P ty Wg 6 0 g := by
  intro g w hw hG k w' hw' hK;refine Life.dis' (hG w fun h => h).1 fun w₁ h₁ => ?_;obtain ⟨hr,g',a1,_⟩ := hG w₁ fun _ => live h₁;refine ⟨g',a1,?_⟩;have atStop:@AtK1 (payOf ty) P ty Wg Wg 2 0 2 g w₁ -> Life P ty Wg 5 1 g' := by
   rintro ⟨_,g2,b1,m,b2⟩;obtain ⟨e,_,_⟩ := go_inj a1 b1;subst e;exact life5 m g' w₁ h₁ b2
  cases k with
  | zero => exact atStop (hK w₁ (rwg hw' h₁))
  | succ k =>
   rcases hK with hK | ⟨_,hK⟩
   ·exact atStop (hK w₁ (rwg hw' h₁))
   ·obtain ⟨g2,w2,es,b1,⟨_,b3⟩,_⟩ := goes_elim (hK w₁ (rwg hw' h₁));obtain ⟨_,_,e⟩ := go_inj a1 b1;rw [b3] at e; simp at e
 intro m
 induction m with
 | zero => intro g w hw hG; exact stop g w hw hG
 | succ m ih =>
  intro g w hw hG k w' hw' hK;rcases hG with hG | ⟨hr,hG⟩
  ·exact stop g w hw hG k w' hw' hK
  ·refine Life.idle' (by omega) (by omega) hr fun w₁ h₁ => ?_;obtain ⟨g',w'',es,a1,⟨a2,a3⟩,a4⟩ := goes_elim (hG w₁ fun _ => live h₁);subst a2 a3;refine ⟨g',a1,?_⟩;have no:¬ @AtK1 (payOf ty) P ty Wg Wg 2 0 2 g w'' := by
    rintro ⟨_,g2,b1,_⟩;obtain ⟨_,_,e⟩ := go_inj a1 b1;simp at e
   cases k with
   | zero => exact absurd (hK w'' (rwg hw' h₁)) no
   | succ k =>
    rcases hK with hK | ⟨_,hK⟩
    ·exact absurd (hK w'' (rwg hw' h₁)) no
    ·obtain ⟨g2,w2,es,b1,⟨b2,b3⟩,b4⟩ := goes_elim (hK w'' (rwg hw' h₁));obtain ⟨e1,e2,_⟩ := go_inj a1 b1;subst e1 e2;exact ih g' w'' h₁ a4 k w'' h₁ b4
abbrev KitR0 (P:Program) (ty:TypeId) (Wg:Nat) (m:Nat) (g:Goroutine) (w:World):Prop := Goes P false (RWg ty Wg) (@DWs (payOf ty) Wg noL noL Wg 2 2) (@AtR0 (payOf ty) P ty Wg Wg 2 0 2 (.int .u32 0)) m g w
theorem not_late:∀ (m:Nat) (g:Goroutine) (w:World),W0 ty Wg w -> Goes P false (RM ty Wg) DC0 (AtMk P .disable fun _ _ => True) m g w -> ∀ k,KitR0 P ty Wg k g w -> False := by
 have live:∀ {w:World},W0 ty Wg w -> WgLive ty Wg w := fun ⟨st,h⟩ => ⟨st,0,h⟩;have stop:∀ (g:Goroutine) (w:World),W0 ty Wg w -> AtMk P .disable (fun _ _ => True) g w -> ∀ k,KitR0 P ty Wg k g w -> False := by
  intro g w hw ⟨_,g',a1,_⟩ k hK;have no:¬ @AtR0 (payOf ty) P ty Wg Wg 2 0 2 (.int .u32 0) g w := by
   rintro ⟨_,_,g2,b1,_⟩;obtain ⟨_,_,e⟩ := go_inj a1 b1;have := congrArg (fun a:Array Event => a[0]?.map (·.loc)) e;cases this
  cases k with
  | zero => exact no (hK w (rwg hw hw))
  | succ k =>
   rcases hK with hK | ⟨_,hK⟩
   ·exact no (hK w (rwg hw hw))
   ·obtain ⟨g2,w2,es,b1,⟨_,b3⟩,_⟩ := goes_elim (hK w (rwg hw hw));obtain ⟨_,_,e⟩ := go_inj a1 b1;subst e;exact (b3 (Go.ConcR.mk .disable) (by simp)).2.1 rfl
 intro m
 induction m with
 | zero => intro g w hw hG k hK; exact stop g w hw (hG w fun h => h) k hK
 | succ m ih =>
  intro g w hw hG k hK;rcases hG with hG | ⟨hr,hG⟩
  ·exact stop g w hw (hG w fun h => h) k hK
  ·obtain ⟨g',w'',es,a1,⟨a2,a3⟩,a4⟩ := goes_elim (hG w fun h => h);subst a2 a3;have no:¬ @AtR0 (payOf ty) P ty Wg Wg 2 0 2 (.int .u32 0) g w'' := by
    rintro ⟨_,_,g2,b1,_⟩;obtain ⟨_,_,e⟩ := go_inj a1 b1;simp at e
   cases k with
   | zero => exact no (hK w'' (rwg hw hw))
   | succ k =>
    rcases hK with hK | ⟨_,hK⟩
    ·exact no (hK w'' (rwg hw hw))
    ·obtain ⟨g2,w2,es,b1,_,b4⟩ := goes_elim (hK w'' (rwg hw hw));obtain ⟨e1,e2,_⟩ := go_inj a1 b1;subst e1 e2;exact ih g' w'' hw a4 k b4
theorem life7:∀ (m:Nat) (g:Goroutine) (w:World),W0 ty Wg w -> Goes P false (RM ty Wg) DC0 (AtMk P (.releaseMerge (stA Wg)) (Idl P ty Wg (AtMk P .disable fun _ _ => True))) m g w -> ∀ k w',W0 ty Wg w' -> KitR0 P ty Wg k g w' -> Life P ty Wg 7 0 g := by
 have live:∀ {w:World},W0 ty Wg w -> WgLive ty Wg w := fun ⟨st,h⟩ => ⟨st,0,h⟩;have stop:∀ (g:Goroutine) (w:World),W0 ty Wg w -> (∀ w₁,RM ty Wg w w₁ -> AtMk P (.releaseMerge (stA Wg)) (Idl P ty Wg (AtMk P .disable fun _ _ => True)) g w₁) -> ∀ k w',W0 ty Wg w' -> KitR0 P ty Wg k g w' -> Life P ty Wg 7 0 g := by
  intro g w hw hG k w' hw' hK;refine Life.rel' (hG w fun h => h).1 fun w₁ h₁ => ?_;obtain ⟨hr,g',a1,m',a2⟩ := hG w₁ fun _ => live h₁;refine ⟨g',a1,?_⟩;have atStop:@AtR0 (payOf ty) P ty Wg Wg 2 0 2 (.int .u32 0) g w₁ -> Life P ty Wg 6 0 g' := by
   rintro ⟨_,_,g2,b1,m,b2⟩;obtain ⟨e,_,_⟩ := go_inj a1 b1;subst e;exact life6 m' g' w₁ h₁ a2 m w₁ h₁ b2
  cases k with
  | zero => exact atStop (hK w₁ (rwg hw' h₁))
  | succ k =>
   rcases hK with hK | ⟨_,hK⟩
   ·exact atStop (hK w₁ (rwg hw' h₁))
   ·obtain ⟨g2,w2,es,b1,_,b4⟩ := goes_elim (hK w₁ (rwg hw' h₁));obtain ⟨e1,e2,_⟩ := go_inj a1 b1;subst e1 e2;exact (not_late m' g' w₁ h₁ a2 k b4).elim
 intro m
 induction m with
 | zero => intro g w hw hG; exact stop g w hw hG
 | succ m ih =>
  intro g w hw hG k w' hw' hK;rcases hG with hG | ⟨hr,hG⟩
  ·exact stop g w hw hG k w' hw' hK
  ·refine Life.idle' (by omega) (by omega) hr fun w₁ h₁ => ?_;obtain ⟨g',w'',es,a1,⟨a2,a3⟩,a4⟩ := goes_elim (hG w₁ fun _ => live h₁);subst a2 a3;refine ⟨g',a1,?_⟩;have no:¬ @AtR0 (payOf ty) P ty Wg Wg 2 0 2 (.int .u32 0) g w'' := by
    rintro ⟨_,_,g2,b1,_⟩;obtain ⟨_,_,e⟩ := go_inj a1 b1;simp at e
   cases k with
   | zero => exact absurd (hK w'' (rwg hw' h₁)) no
   | succ k =>
    rcases hK with hK | ⟨_,hK⟩
    ·exact absurd (hK w'' (rwg hw' h₁)) no
    ·obtain ⟨g2,w2,es,b1,_,b4⟩ := goes_elim (hK w'' (rwg hw' h₁));obtain ⟨e1,e2,_⟩ := go_inj a1 b1;subst e1 e2;exact ih g' w'' h₁ a4 k w'' h₁ b4
set_option maxRecDepth 100000 in
set_option maxHeartbeats 8000000 in
theorem doneHead (H:WgLib P L) {Wg:Nat} {c:Frame} {cs:List Frame} (w:World) (hF:WgLive L.tWg Wg w) :
  Idl P L.tWg Wg (AtMk P (.releaseMerge (stA Wg)) (Idl P L.tWg Wg (AtMk P .disable fun _ _ => True))) (G ((baseD L.done).at ⟨#[.pointer (some ⟨Wg,0,none⟩),undef,undef,undef],[]⟩ [.code (body_done L)]) (c :: cs)) w := by
 lib_facts
 refine ⟨500,?_⟩;simp only [body_done,body_add,doneFn,addFn,Option.getD_some]
 u_reg rm hF
 u_op rm hF
 u_call H.f_add (nm_add L) addFn rm hF
 repeat first
  | u_c stepG_seq rm hF
  | u_c stepG_region_end rm hF
  | u_c stepG_skip rm hF
  | u_reg rm hF
  | u_cond true rm hF
  | u_cond false rm hF
  | u_op rm hF
  | u_conv H.underlying_tWgP H.room_tWg (WgLive.cell0 hF).choose_spec rm hF
 refine Goes.stop (fun w₁ h₁ => ?_);replace hF := rm hF h₁;clear h₁;refine ⟨rfl,_,stepG_markAt .releaseMerge (by simp) rfl rfl (by k_ne) rfl H.f_relMerge (x_relMerge_n L) (x_relMerge_b L) (x_relMerge_x L) (x_relMerge_f L) (by simp [Act.eval,stA]),500,?_⟩
 walk_nrm
 repeat first
  | u_c stepG_seq rm hF
  | u_c stepG_region_end rm hF
  | u_c stepG_skip rm hF
  | u_reg rm hF
 refine Goes.stop (fun w₁ h₁ => ?_);exact ⟨rfl,_,stepG_mark0 .disable (by simp) rfl rfl (by k_ne) rfl H.f_disable (x_disable_n L) (x_disable_b L) (x_disable_x L) (x_disable_f L),trivial⟩
theorem done_life (H:WgLib P L) {Wg:Nat} {c:Frame} {cs:List Frame} {qt:Nat} (hcm:c.mode = .returning) (hT:QuitsD P qt 0 (G c cs)) (hw:∃ w,W0 L.tWg Wg w):Life P L.tWg Wg 7 0 (G ((baseD L.done).at ⟨#[.pointer (some ⟨Wg,0,none⟩),undef,undef,undef],[]⟩ [.code (body_done L)]) (c :: cs)) := by
 obtain ⟨w,st,hw⟩ := hw;obtain ⟨m,hG⟩ := doneHead (c := c) (cs := cs) H w ⟨st,0,hw⟩;have hK := @doneN (payOf L.tWg) L P H noL noL Wg Wg 2 0 2 (.int .u32 0) c cs qt hcm hT w ⟨⟨st,0,hw⟩,WgAt.cellSm hw⟩;exact life7 m _ w ⟨st,hw⟩ hG _ w ⟨st,hw⟩ hK
end
end
section
open Go Go.Conc
open Go.ConcR (KK wgBlock WgAt stA smA rd wr)
open Go.Conc.Lib Go.RowKit Go.ConcR.Gen
open WgW
variable {P:Program} {L:WgLink} {Wg C:Nat}
theorem WkG.up {ty:TypeId} {g:Goroutine} {h:LH} (a:WkG P ty Wg C g h):∀ k,Disj h.get k -> WkG P ty Wg C g (h.add k) := by
 induction a with
 | work hs _ ih =>
  intro k d;refine .work (hs.frame d) ?_;rintro g' h₂ ⟨h',d',rfl,hN⟩;exact ih g' h' hN k d'
 | done hk l =>
  intro k d;obtain ⟨j,φ,c,e,v,a1,a2,a3⟩ := hk.kept;exact .done ⟨j,φ,c,e,v,a1,Cells.add_left a2,a3⟩ l
theorem wkg_closed (P:Program) (ty:TypeId) (Wg C:Nat):Closed X0 P false (fun g h => WkG P ty Wg C g h) :=
 ⟨⟨fun _ _ _ _ hs hN => .work hs hN,fun _ _ k hw d => hw.up k d⟩,trivial⟩
theorem take_marksD {P:Program} {main:Bool} {R:Goroutine -> LH -> Prop} {cs:List Frame} (hR:LClosed P main R) {fn:FI} {ds:List Deferred} {tmps:Array Value} {todo:List Item} {h:LH}:∀ (mk:List Nat) (hp:Cells),mk.Nodup -> Disj h.get hp -> (∀ r ∈ mk,hp r = some (true,.deferred (some []))) ->
  (∀ hp',Disj h.get hp' -> R (G { mkF fn ds none tmps todo with mode := .returning } cs) (h.add hp')) -> R (G { mkF fn (mk.map markOf ++ ds) none tmps todo with mode := .returning } cs) (h.add hp) := by
 intro mk
 induction mk with
 | nil => intro hp _ d _ hk; exact hk hp d
 | cons r mk ih =>
  intro hp hn d hm hk;have hr := hm r (by simp);have hhr:h.get r = none := by
   rcases d r with h' | h'
   ·exact h'
   ·rw [hr] at h'; cases h'
  refine mv_takeDeferred hR (r := r) (by show h.get.add hp r = _; rw [Cells.add_right hhr]; exact hr) ?_;have e:(h.get.add hp).upd r (true,.deferred none) = h.get.add (hp.upd r (true,.deferred none)) := by
   funext b;unfold Cells.upd Cells.add;by_cases e:b = r
   ·subst e; simp [hhr]
   ·simp [e]
  show R _ { h.add hp with get := (h.get.add hp).upd r (true,.deferred none) };rw [e];have hn' := List.nodup_cons.1 hn;refine ih (hp.upd r (true,.deferred none)) hn'.2 ?_ (fun q hq => ?_) hk
  ·intro b;by_cases e:b = r
   ·subst e; exact .inl hhr
   ·rw [Cells.upd_ne _ _ e]; exact d b
  ·have hne:q ≠ r := by rintro rfl; exact hn'.1 hq
   rw [Cells.upd_ne _ _ hne]; exact hm q (by simp [hq])
def undefer (f:Func):Func := { f with body := match f.body with | some (.seq _ b) => some b | c => c }
theorem leave_quits {f:FuncId} {fd:Func} {tmps:Array Value} {todo:List Item} (hf:P.funcs[f]? = some fd) (hres:fd.results = #[]):QuitsD P 2 0 (G { mkF ⟨f,.deferred,by simp⟩ [] none tmps todo with mode := .returning } [baseOf P []]) := by
 have hbase:(P.funcs[P.funcs.size]?) = none := Array.getElem?_eq_none (Nat.le_refl _);refine QuitsD.of_quitsIn (.inr ⟨rfl,G (baseOf P []) [],fun w => ?_,.inr ⟨rfl,{ frame := baseOf P [],callers := [],status := .finished,dying := none },fun w => ?_,rfl⟩⟩)
 ·have h1:(results fd tmps).run P w = .ok (.tuple #[]) w := by rw [<- Sem.runT_fst _ _ _ #[],results_nil hres]
  have h2:(results fd tmps).events P w #[] = #[] := by show ((results fd tmps).runT P w #[]).2 = _; rw [results_nil hres]
  simp [G,mkF,stepG,unwind,hf,h1,h2,GStep.after,doReturn,baseOf,goexitEntry]; rfl
 ·simp [G,stepG,unwind,baseOf,Frame.catches,goexitEntry,show (default:Frame).todo = [] from rfl]
theorem some_wg (ty:TypeId) (Wg:Nat):∃ w,W0 ty Wg w := by
 refine ⟨{ (default:World) with heap := (Array.replicate Wg (.pending #[] 0)).push (wgBlock ty 0 0) },0,?_⟩;show ((Array.replicate Wg (Obj.pending #[] 0)).push (wgBlock ty 0 0))[Wg]? = _;rw [Array.getElem?_push];simp
theorem worker_wk (H:WgLib P L) {X:Ctx} (hX:X.P = P) (hkd:X.kd = .normal) {f:FuncId} {fd:Func} {first args cap:Array Value} {rest:List Value} {hc:Cells} {j:Nat} {φ:Value -> Cells -> Prop} {id:Nat} {o:Oper} {b:Code} {ats:Array TypeId}
  (hf : P.funcs[f]? = some fd) (hn : (fd.name == "runtime.NumGoroutine") = false) (hb : fd.body = some (.seq (.region id #[o] false) b)) (hres : fd.results = #[]) (ho : o.op = .defer { callee := .value (.func L.done), args := #[.tmp 0], argTypes := ats }) (hdst : o.dst = none)
  (hgu:∀ y,Region.wanted o y = true) (ha:(first ++ args) ++ cap = (Value.pointer (some ⟨Wg,0,none⟩) :: rest).toArray)
  (hT:(ftree X (undefer fd) (Value.pointer (some ⟨Wg,0,none⟩) :: rest)).wp X0 X.P (retQ fun _ h' => Kept C h') ⟨hc,[],List.replicate 7 [],[(j,φ)]⟩) :
  WkG P L.tWg Wg C (G (baseOf P [deferOf (.func (.func f) first cap) args]) []) ⟨hc,[],List.replicate 7 [],[(j,φ)]⟩ := by
 subst hX;have hcl := wkg_closed X.P L.tWg Wg C
 -- it is entered
 refine WkG.work (N := fun g h => g = G (Frame.enter X.P f (Value.pointer (some ⟨Wg,0,none⟩) :: rest).toArray .deferred) [baseOf X.P []] /\ h = ⟨hc,[],List.replicate 7 [],[(j,φ)]⟩) ?_ ?_
 ·intro w hfit;refine ⟨_,w,#[],hc,?_,Tr.refl hfit,by simp,rfl,rfl⟩;have hbn:fd.body.isNone = false := by rw [hb]; rfl
  have hcall:(callFunc f (Value.pointer (some ⟨Wg,0,none⟩) :: rest).toArray).runT X.P w #[] = (.ok (.enter f (Value.pointer (some ⟨Wg,0,none⟩) :: rest).toArray) w,#[]) := by
   show ((program).bind _).runT X.P w #[] = _;simp only [program,Sem.bind,Sem.runT,hf,hn,hbn,Bool.false_eq_true,if_false];rfl
  have hinv:invoke (deferOf (.func (.func f) first cap) args).target (deferOf (.func (.func f) first cap) args).args = callFunc f (Value.pointer (some ⟨Wg,0,none⟩) :: rest).toArray := by rw [<- ha]; rfl
  have hnil:((deferOf (.func (.func f) first cap) args).target matches .nil) = false := rfl;have hcd:∀ fr cs,callDeferred X.P fr cs none (deferOf (.func (.func f) first cap) args) w = .go (G (Frame.enter X.P f (Value.pointer (some ⟨Wg,0,none⟩) :: rest).toArray .deferred) (fr :: cs)) w (seen X.P fr.fn #[]) := by
   intro fr cs;unfold callDeferred;simp only [hinv,hnil,Bool.false_and,Bool.false_eq_true,if_false,hcall];rfl
  show unwind X.P false (baseOf X.P [deferOf (.func (.func f) first cap) args]) [] none w = _;unfold unwind;simp only [baseOf,deferOf];exact hcd _ _
 ·rintro _ _ ⟨rfl,rfl⟩;unfold ftree at hT;have hbody:(undefer fd).body = some b := by unfold undefer; rw [hb]
  have hnt0:(undefer fd).ntmps = fd.ntmps := rfl;have hres0:(undefer fd).results = fd.results := rfl;rw [hbody,hnt0,hres0] at hT;split at hT
  ·rename_i c hb' hchk;cases hb';simp only [Bool.and_eq_true] at hchk;have hlen := Nat.le_of_ble_eq_true hchk.1;have hnt := Nat.le_of_ble_eq_true hchk.2.1;have hds := allBelow_spec hchk.2.2;rw [lenL_eq] at hlen;let fn:FI := ⟨f,.deferred,by simp⟩
   let tm:Array Value := (Value.pointer (some ⟨Wg,0,none⟩) :: rest).toArray ++ Array.replicate (fd.ntmps - (Value.pointer (some ⟨Wg,0,none⟩) :: rest).length) undef;have hen:Frame.enter X.P f (Value.pointer (some ⟨Wg,0,none⟩) :: rest).toArray .deferred = mkF fn [] none tm [.code (.seq (.region id #[o] false) b)] := by
    simp [Frame.enter,hf,hb,mkF,fn,tm]
   rw [hen];refine mv_seq hcl.1 (mv_region hcl.1 ?_);have ht0:tm[0]? = some (.pointer (some ⟨Wg,0,none⟩)) := by
    show ((Value.pointer (some ⟨Wg,0,none⟩) :: rest).toArray ++ _)[0]? = _;rw [Array.getElem?_append_left (by simp)]; rfl
   refine step_pure hcl.1 (g' := G (mkF fn [dcall L.done #[.pointer (some ⟨Wg,0,none⟩)]] none tm [.inRegion #[o] [],.code b]) [baseOf X.P []]) (fun w => ?_) ?_
   ·have := stepG_defer (P := X.P) (main := false) (b := baseD f) (a := ⟨tm,[]⟩) (k := [.code b]) (cs := [baseOf X.P []]) (w := w) (ops := #[o]) (i := 0) (rest := []) (o := o) rfl (hgu _) (by simp [baseD]) ho;have e1:(baseD f).at ⟨tm,[]⟩ (.inRegion #[o] [0] :: [.code b]) = mkF fn [] none tm [.inRegion #[o] (List.range #[o].size),.code b] := rfl;rw [<- e1,this];congr 2;have e2:(Act.mk tm []).eval (.tmp 0) = .pointer (some ⟨Wg,0,none⟩) := by
     simp only [Act.eval]; rw [Array.getD_eq_getD_getElem?,ht0]; rfl
    have e3:(#[Operand.tmp 0].map (Act.mk tm []).eval) = #[.pointer (some ⟨Wg,0,none⟩)] := by
     rw [<- e2]; simp
    show (baseD f).at (Act.put ⟨tm,dcall L.done (#[Operand.tmp 0].map (Act.mk tm []).eval) :: []⟩ o.dst undef) _ = _;rw [e3,hdst]; rfl
   ·refine mv_regionEnd hcl.1 ?_;have hadd:(⟨hc,[],List.replicate 7 [],[(j,φ)]⟩ : LH) = LH.add ⟨hc,[],List.replicate 7 [],[(j,φ)]⟩ (fun _ => none) := (LH.add_noneW _).symm;rw [hadd];refine spine_sound X0_ok hcl trivial (fn := fn) b _ (fun _ => False) [dcall L.done #[.pointer (some ⟨Wg,0,none⟩)]] _ _ _ _ (fun x => x) _ _ _ ?_ ?_ (fun _ => .inr rfl) (fun _ h => h.elim) ?_ hT ?_
    ·intro hfin;unfold finOf at hfin;rw [hkd] at hfin;split at hfin
     ·rename_i h1 _; cases h1
     ·cases hfin
    ·refine ⟨?_,?_,?_,?_,?_,?_⟩
     ·intro i a hi hg hb';obtain ⟨v,rfl,_,h3,h4⟩ := argsEnv_get hg;show tm[i]? = _;rw [Array.getElem?_append_left (by simpa using h3)];simpa [conc] using h4
     ·intro s v hs hg; obtain ⟨_,_,_,h3,_⟩ := argsEnv_get hg; omega
     ·intro s v hs hg; obtain ⟨_,_,_,h3,_⟩ := argsEnv_get hg; omega
     ·intro s s' a a' hs _ hg; obtain ⟨_,_,_,h3,_⟩ := argsEnv_get hg; omega
     ·intro s v hs hg; obtain ⟨_,_,_,h3,_⟩ := argsEnv_get hg; omega
     ·intro s v hs hg; obtain ⟨_,_,_,h3,_⟩ := argsEnv_get hg; omega
    ·intro d hd;have := hds d hd;simp [tm]; omega
    ·intro x e' t' σ' hp' h' PB' mk s' dj' hN h1 h2 h3 h4 h5 hT';have fin:Kept C h' -> ∀ todo,WkG X.P L.tWg Wg C (G { mkF fn (mk.map markOf ++ [dcall L.done #[.pointer (some ⟨Wg,0,none⟩)]]) none t' todo with mode := .returning } [baseOf X.P []]) (h'.add hp') := by
      intro hk todo;refine take_marksD (R := fun g h => WkG X.P L.tWg Wg C g h) hcl.1 mk hp' h4 dj' (fun r hr => (h3 r hr).2) fun hp'' dj'' => ?_;refine step_pure hcl.1 (g' := G ((baseD L.done).at ⟨#[.pointer (some ⟨Wg,0,none⟩),undef,undef,undef],[]⟩ [.code (body_done L)]) [{ mkF fn [] none t' todo with mode := .returning },baseOf X.P []]) (fun w => ?_) ?_
      ·exact stepG_unwind_enter (P := X.P) (main := false) (b := baseD f) (a := ⟨t',[dcall L.done #[.pointer (some ⟨Wg,0,none⟩)]]⟩) (todo := todo) (cs := [baseOf X.P []]) (w := w) rfl H.f_done (nm_done L) rfl
      ·have hk':Kept C (h'.add hp'') := by
        obtain ⟨j,φ,c,e,v,a1,a2,a3⟩ := hk.kept;exact ⟨j,φ,c,e,v,a1,Cells.add_left a2,a3⟩
       exact .done hk' (done_life H rfl (leave_quits hf hres) (some_wg _ _))
     have hres':∀ {e'},(resT X e' fd.results.toList fun l => match l with
       | [v] => .leaf (.ret v)
       | l => .leaf (.ret (.tuple l.toArray))).wp X0 X.P (retQ fun _ h' => Kept C h') h' -> Kept C h' := by
      intro e' hw;rw [hres] at hw;exact hw
     cases x with
     | fall => exact mv_end hcl.1 (fin (hres' hT') _)
     | ret => exact fun k' => mv_ret hcl.1 (fin (hres' hT') _)
     | exit j => exact hT'.elim
  ·exact hT.elim
/-! ### Rules for trees -/
theorem ret_of {X:XP} {f:FuncId} {fd:Func} {cs:List Frame} {g:Goroutine} {h:LH} {main:Bool} {R:Goroutine -> LH -> Prop} {Q:Value -> LH -> Prop} (hf:P.funcs[f]? = some fd) (hres:fd.results = #[]) (hk:∀ fr v h' k,fr.fn = f -> Disj h'.get k -> Ret P .normal fr v (h'.get.add k) -> Q v h' -> R (G fr cs) (h'.add k))
  (hg:RetOf f cs g) (hq:Q (.tuple #[]) h):R g h := by
 obtain ⟨fr,rfl,h1,h2,h3,h4⟩ := hg;have := hk fr (.tuple #[]) h (fun _ => none) h1 (fun _ => .inr rfl) ⟨h2,h3,h4,fd,by rw [h1]; exact hf,?_⟩ hq
 ·rw [LH.add_noneW] at this; exact this
 ·have e:results fd fr.tmps = pure (.tuple #[]) := by simp [results,hres]
  rw [e]; exact ⟨rfl,rfl⟩
theorem fw_add (H:WgLib P L) {h:LH} {ps:List Script} {Q:Value -> LH -> Prop} (h1:h.chans = [C,Wg,0]) (h2:h.pend = [] :: ps) (hQ:Q (.tuple #[]) { h with chans := [C,Wg,1] }):FW (XG L) P L.add #[.pointer (some ⟨Wg,0,none⟩),.int .i64 1] h Q := by
 refine ⟨⟨addFn L,H.f_add,rfl,nm_add L⟩,fun main R hR cs _ hk => ?_⟩;exact hR.2.2.2.1 cs h C Wg ps h1 h2 fun g hg => ret_of (X := XG L) (main := main) H.f_add rfl hk hg hQ
theorem fw_wait (H:WgLib P L) {h:LH} {ps:List Script} {c:Array Value} {e:TypeId} {Q:Value -> LH -> Prop} (h1:h.chans = [C,Wg,0]) (h2:h.pend = [] :: ps) (h3:h.get C = some (true,.pending c e)) (h4:∀ (i:Nat) (v:Value),c[i]? = some v -> notHole v = true \/ ∃ φ,[(i,φ)] ∈ ps)
  (hQ:∀ c',Joined ps c c' -> Q (.tuple #[]) (h.joined C c' e)):FW (XG L) P L.wait #[.pointer (some ⟨Wg,0,none⟩)] h Q := by
 refine ⟨⟨waitFn L,H.f_wait,rfl,nm_wait L⟩,fun main R hR cs _ hk => ?_⟩;exact hR.2.2.2.2.2 cs h C Wg ps c e h1 h2 h3 h4 fun g c' hg hJ => ret_of (X := XG L) (main := main) H.f_wait rfl hk hg (hQ c' hJ)
theorem FW.begun {f:FuncId} {args:Array Value} {h:LH} {c:Array Value} {e:TypeId} {Q:Value -> LH -> Prop} (a1:h.chans = []) (a2:h.pend = []) (a3:C ≠ Wg) (a4:h.get C = some (true,.cells c e (0,0))) (a5:∀ (i:Nat) (v:Value),c[i]? = some v -> notHole v = true) (a6:h.get Wg = some (true,wgBlock L.tWg 0 0))
  (hF:FW (XG L) P f args { h with get := partedW h.get C Wg c e,chans := [C,Wg,0],pend := [[]] } Q):FW (XG L) P f args h Q :=
 ⟨hF.1,fun main R hR cs hst hk => hR.2.2.1 _ cs h C Wg c e a1 a2 a3 a4 a5 a6 (hF.2 main R hR cs hst hk)⟩
theorem spawnG {f:FuncId} {first args cap:Array Value} {h:LH} {ps:List Script} {F:Nat -> Bool} {hc:Cells} {c cc c1:Array Value} {e:TypeId} {j:Nat} {φ:Value -> Cells -> Prop} {Q:LH -> Prop} (h1:h.chans = [C,Wg,1]) (h2:h.pend = [] :: ps) (h3:ps.length + 1 < 2147483646) (hg:Gives C F h.get hc c cc c1 e)
  (hw:WkG P L.tWg Wg C (G (baseOf P [deferOf (.func (.func f) first cap) args]) []) ⟨hc,[],List.replicate 7 [],[(j,φ)]⟩) (hQ:Q { h with get := keepC F h.get C c1 e,chans := [C,Wg,0],pend := [] :: (ps ++ [[(j,φ)]]) }):SpawnW (XG L) P (.func (.func f) first cap) args h Q := by
 intro main R hR fr cs _ _ hst k d hk;have hR' := hR.2;obtain ⟨hmain,_⟩ := hR'.1;subst hmain;refine hR'.2.2.2.1 fr cs (h.add k) C Wg ps (fun r => F r && (h.get r).isSome) hc _ c cc c1 e j φ ⟨hst⟩ h1 h2 h3 ⟨?_,Cells.add_left hg.have0,hg.hasC,hg.size,hg.size1,hg.part,hg.rest⟩ hw ?_
 ·intro r x hr hx;obtain ⟨b1,b2⟩ := hg.reads r x hr hx;refine ⟨b1,?_⟩;show freezeC _ (h.get.add k) r = _;rw [freezeC_add]; exact Cells.add_left b2
 ·have := hk { h with get := keepC F h.get C c1 e,chans := [C,Wg,0],pend := [] :: (ps ++ [[(j,φ)]]) } (d.of_sub fun r hr => by
   show keepC F h.get C c1 e r = none;unfold keepC;rw [if_neg (fun e' => by subst e'; rw [hg.have0] at hr; cases hr)];simp only [freezeC,hr]) hQ
  unfold LH.add at this ⊢;simp only [keepC_add] at this ⊢;exact this
end
end Go.TM
namespace Go.Proofs.YtfkfohpnpljihaaGreatDoor
section
open Go Go.TM Go.Proofs
abbrev lk:Go.Conc.Lib.WgLink := { add := 116,done := 118,wait := 120,relMerge := 151,disable := 152,enable := 153,inBubble := 154,associate := 155,fatal := 156,uOr := 157,uAdd := 158,raceRead := 159,uLoad := 160,uStore := 161,disassociate := 162,semrelease := 163,acquire := 166,isAssociated := 167,uCas := 168,raceWrite := 169,semacquire := 170,orU64 := 188,addU64 := 189,loadU64 := 190,storeU64 := 191,casU64 := 192,tWgP := 251,tUP := 253,tAssoc := 254,tWg := 210,tAU := 207,tU64 := 205,tUint := 258,tU32 := 208,tPU32 := 259,tPAU := 279,tPU64 := 281,tNoCopy := 202,tANoCopy := 203,tAlign64 := 204 }
theorem lib:Go.Conc.Lib.WgLib Tryz.prog lk :=
 ⟨Tryz.func116,Tryz.func118,Tryz.func120,Tryz.func151,Tryz.func152,Tryz.func153,Tryz.func154,Tryz.func155,Tryz.func156,Tryz.func157,Tryz.func158,Tryz.func159,Tryz.func160,Tryz.func161,Tryz.func162,Tryz.func163,Tryz.func166,Tryz.func167,Tryz.func168,Tryz.func169,Tryz.func170,Tryz.func188,Tryz.func189,Tryz.func190,Tryz.func191,Tryz.func192,Tryz.underlying251,Tryz.runUnderlying251,Tryz.sizeOf251,Tryz.isAgg251,Tryz.zeroValue251,Tryz.underlying253,Tryz.runUnderlying253,Tryz.sizeOf253,Tryz.isAgg253,Tryz.zeroValue253,Tryz.underlying254,Tryz.runUnderlying254,Tryz.sizeOf254,Tryz.isAgg254,Tryz.zeroValue254,Tryz.underlying210,Tryz.runUnderlying210,Tryz.sizeOf210,Tryz.isAgg210,Tryz.zeroValue210,Tryz.underlying207,Tryz.runUnderlying207,Tryz.sizeOf207,Tryz.isAgg207,Tryz.zeroValue207,Tryz.underlying205,Tryz.runUnderlying205,Tryz.sizeOf205,Tryz.isAgg205,Tryz.zeroValue205,Tryz.underlying258,Tryz.runUnderlying258,Tryz.sizeOf258,Tryz.isAgg258,Tryz.zeroValue258,Tryz.underlying208,Tryz.runUnderlying208,Tryz.sizeOf208,Tryz.isAgg208,Tryz.zeroValue208,Tryz.underlying259,Tryz.runUnderlying259,Tryz.sizeOf259,Tryz.isAgg259,Tryz.zeroValue259,Tryz.underlying279,Tryz.runUnderlying279,Tryz.sizeOf279,Tryz.isAgg279,Tryz.zeroValue279,Tryz.underlying281,Tryz.runUnderlying281,Tryz.sizeOf281,Tryz.isAgg281,Tryz.zeroValue281,Tryz.underlying0,Tryz.runUnderlying0,Tryz.sizeOf0,Tryz.isAgg0,Tryz.zeroValue0,Tryz.underlying3,Tryz.runUnderlying3,Tryz.sizeOf3,Tryz.isAgg3,Tryz.zeroValue3,Tryz.underlying4,Tryz.runUnderlying4,Tryz.sizeOf4,Tryz.isAgg4,Tryz.zeroValue4,Tryz.underlying9,Tryz.runUnderlying9,Tryz.sizeOf9,Tryz.isAgg9,Tryz.zeroValue9,Tryz.underlying20,Tryz.runUnderlying20,Tryz.sizeOf20,Tryz.isAgg20,Tryz.zeroValue20,Tryz.underlying21,Tryz.runUnderlying21,Tryz.sizeOf21,Tryz.isAgg21,Tryz.zeroValue21,by kernel_rfl,by kernel_rfl⟩
end
section
open Go Go.TM Go.Proofs Go.Conc
set_option linter.unusedVariables false
set_option maxRecDepth 100000
def n3199 (z0 z1 z2 z3 z4 z5 z6:Addr):T := .loadS z1 fun p n c => .loop [.int .i64 0] (fun vs => .pi vs fun n_1 vs => .unNil vs (bif decide (n_1 < (↑n:Int)) then .need (0 <= n_1 /\ n_1 < (↑n:Int)) (.someA p fun a => .li (a.add (n_1.toNat * 1)) fun n => .loadS z2 fun p n_2 c => .li z3 fun n_3 => .loadS z2 fun p_1 n_4 c_1 => .li z3 fun n_5 => .need (0 <= n_5 /\ n_5 < (↑n_4:Int)) (.someA p_1 fun a => .li (a.add (n_5.toNat * 1)) fun n_6 => .loadS (z4.add 0) fun p_2 n_7 c_2 => .loadS (z4.add 1) fun p_3 n_8 c_3 => .loadS (z4.add 2) fun p_4 n_9 c_4 => .li z5 fun n_10 => .li z6 fun n_11 => .cI 119 #[.agg #[.slice p_2 n_7 c_2,.slice p_3 n_8 c_3,.slice p_4 n_9 c_4],.int .i64 n_10,.int .i64 n_11,.int .i64 n] fun n => .li (a.add (n_5.toNat * 1)) fun n_12 => .ne n_12 n_6 (.need (0 <= n_5 /\ n_5 < (↑n_4:Int)) (.someA p_1 fun a_1 => .ne (.pointer (some (a_1.add (n_5.toNat * 1)))) (.pointer (some (a.add (n_5.toNat * 1)))) (.li z3 fun n_13 => .ne n_13 n_5 (.loadS z2 fun p_5 n_14 c_5 => .ne (.slice p_5 n_14 c_5) (.slice p_1 n_4 c_1) (.li z3 fun n_15 => .ne n_15 n_3 (.loadS z2 fun p_6 n_16 c_6 => .ne (.slice p_6 n_16 c_6) (.slice p n_2 c) (.need (0 <= n_3 /\ n_3 < (↑n_2:Int)) (.someA p fun a => .store ((a.add (n_3.toNat * 1)).add 0) (.int .i64 (if n > n_6 then n else n_6)) (.ag [.int .i64 (wrap .i64 (n_1 + 1))]))))))))))) else .bk [n_1])) (fun vs => .pi vs fun n vs => .unNil vs (.rt (.tuple #[]))) (fun vs => .pi vs fun n vs => .unNil vs (.rt (.tuple #[]))) fun x x_1 => .fail
noncomputable abbrev x3199:Ctx := { P := Tryz.prog,priv := [],loops := [{ id := 0,slots := [(11,.int .i64)],ro := [],outs := [] }],joins := [] }
theorem d3199 (z0 z1 z2 z3 z4 z5 z6:Addr):ftree x3199 (undefer Tryz.f117) [.pointer (some z0),.pointer (some z1),.pointer (some z2),.pointer (some z3),.pointer (some z4),.pointer (some z5),.pointer (some z6)] = n3199 z0 z1 z2 z3 z4 z5 z6 := by kernel_rfl
def rest3199:Code := match Tryz.f117.body with | some (.seq _ b) => b | _ => .skip
theorem w3199 {Wg C:Nat} {z1 z2 z3 z4 z5 z6:Addr} {hc:Cells} {j:Nat} {φ:Value -> Cells -> Prop} (hT:(n3199 ⟨Wg,0,none⟩ z1 z2 z3 z4 z5 z6).wp X0 Tryz.prog (retQ fun _ h' => Kept C h') ⟨hc,[],List.replicate 7 [],[(j,φ)]⟩) :
  WkG Tryz.prog lk.tWg Wg C (G (baseOf Tryz.prog [deferOf (.func (.func 117) #[] #[.pointer (some ⟨Wg,0,none⟩),.pointer (some z1),.pointer (some z2),.pointer (some z3),.pointer (some z4),.pointer (some z5),.pointer (some z6)]) #[]]) []) ⟨hc,[],List.replicate 7 [],[(j,φ)]⟩ :=
 worker_wk lib (X := x3199) (id := 0) (b := rest3199) (o := { dst := none, op := .defer { callee := .value (.func 118), args := #[.tmp 0], argTypes := #[210] }, type := 0, pos := "goods.go:316", after := #[], guard := none }) (rest := [.pointer (some z1), .pointer (some z2), .pointer (some z3), .pointer (some z4), .pointer (some z5), .pointer (some z6)]) rfl rfl Tryz.func117 (by kernel_rfl) (by kernel_rfl) (by kernel_rfl) rfl rfl (fun y => rfl) (by simp) (by rw [d3199]; exact hT)
end
end Go.Proofs.YtfkfohpnpljihaaGreatDoor
section
namespace Go.TM
open Go
def rowF (t:GTab) (e x:Int) (b:List Int):Int := b.foldl (fun m y => max m (levelF t e x y)) 0
def nearF (t:GTab) (e:Int) (a b:List Int):Int := a.foldl (fun m x => max m (rowF t e x b)) 0
theorem foldMax_le {α:Type} (f:α -> Int):∀ (l:List α) (m:Int),m <= l.foldl (fun m y => max m (f y)) m
 | [],m => Int.le_refl m
 | x :: l,m => Int.le_trans (Int.le_max_left _ _) (foldMax_le f l _)
theorem foldMax_mem' {α:Type} (f:α -> Int) (x:α):∀ (l:List α) (m:Int),x ∈ l -> f x <= l.foldl (fun m y => max m (f y)) m
 | [],_,h => by cases h
 | y :: l,m,h => by
  rcases List.mem_cons.1 h with rfl | h
  ·exact Int.le_trans (Int.le_max_right _ _) (foldMax_le f l _)
  ·exact foldMax_mem' f x l _ h
theorem foldMax_mem {α:Type} (f:α -> Int) {x:α} {l:List α} {m:Int} (h:x ∈ l):f x <= l.foldl (fun m y => max m (f y)) m := foldMax_mem' f x l m h
theorem foldMax_bound' {α:Type} (f:α -> Int) (k:Int):∀ (l:List α) (m:Int),m <= k -> (∀ x ∈ l,f x <= k) -> l.foldl (fun m y => max m (f y)) m <= k
 | [],_,hm,_ => hm
 | x :: l,m,hm,h => foldMax_bound' f k l _ (Int.max_le.2 ⟨hm,h x List.mem_cons_self⟩) fun y hy => h y (List.mem_cons_of_mem _ hy)
theorem foldMax_bound {α:Type} (f:α -> Int) {k:Int} {l:List α} {m:Int} (hm:m <= k) (h:∀ x ∈ l,f x <= k):l.foldl (fun m y => max m (f y)) m <= k := foldMax_bound' f k l m hm h
theorem rowF_nonneg (t:GTab) (e x:Int) (b:List Int):0 <= rowF t e x b := foldMax_le _ b 0
theorem nearF_nonneg (t:GTab) (e:Int) (a b:List Int):0 <= nearF t e a b := foldMax_le _ a 0
theorem rowF_mono {t:GTab} {e x:Int} {b b':List Int} (h:∀ y ∈ b,y ∈ b'):rowF t e x b <= rowF t e x b' := foldMax_bound _ (rowF_nonneg _ _ _ _) fun y hy => foldMax_mem _ (h y hy)
theorem nearF_mono {t:GTab} {e:Int} {a a' b b':List Int} (ha:∀ x ∈ a,x ∈ a') (hb:∀ y ∈ b,y ∈ b'):nearF t e a b <= nearF t e a' b' :=
 foldMax_bound _ (nearF_nonneg _ _ _ _) fun x hx => Int.le_trans (rowF_mono hb) (foldMax_mem (fun x => rowF t e x b') (ha x hx))
theorem rowF_take {t:GTab} {e x:Int} {b:List Int} {j:Nat} {y:Int} (h:b[j]? = some y):rowF t e x (b.take (j + 1)) = max (rowF t e x (b.take j)) (levelF t e x y) := by
 have hj:j < b.length := (List.getElem?_eq_some_iff.1 h).1;have:b.take (j + 1) = b.take j ++ [y] := by
  rw [List.take_add_one,h]; rfl
 unfold rowF;rw [this,List.foldl_append]; rfl
def butC (k:Cells) (C:Nat):Cells := fun r => if r = C then none else k r
theorem butC_cell {k:Cells} {C:Nat} {a:Addr} {v:Value} (h:(butC k C).cell? a = some v):a.block ≠ C /\ k.cell? a = some v := by
 unfold Cells.cell? butC at h;by_cases e:a.block = C
 ·rw [if_pos e] at h; cases h
 ·rw [if_neg e] at h; exact ⟨e,h⟩
theorem rd_store {k:Cells} {C:Nat} {a:Addr} {v:Value} (h:a.block = C) {m:Cells} (hm:Rd k m) (hk:k C = none):Rd k (m.setCell a v) := by
 intro b w hb;have hne:b.block ≠ a.block := by
  intro e;unfold Cells.cell? at hb;rw [e,h,hk] at hb; cases hb
 have := hm b w hb;unfold Cells.cell? Cells.setCell at *;rw [if_neg hne]; exact this
theorem pend_cell {k:Cells} {C i:Nat} {cc:Array Value} {e:TypeId} {v:Value} (h:k C = some (true,.pending cc e)) (hi:cc[i]? = some v) (hn:notHole v = true):k.cell? ⟨C,i,none⟩ = some v := by
 unfold Cells.cell?;rw [h];simp [hi,hn]
theorem addr_i (C i:Nat):(⟨C,0,none⟩ : Addr).add ((i:Int).toNat * 1) = ⟨C,i,none⟩ := by
 rw [Int.toNat_natCast,Nat.mul_one];unfold Addr.add;simp;intro h; exact h.symm
theorem addr_i0 (C i:Nat):((⟨C,0,none⟩ : Addr).add ((i:Int).toNat * 1)).add 0 = ⟨C,i,none⟩ := by
 rw [addr_i]; rfl
end Go.TM
namespace Go.Proofs.YtfkfohpnpljihaaGreatDoor
open Go Go.TM Go.Proofs Go.Conc
set_option linter.unusedVariables false
set_option maxRecDepth 100000
attribute [local irreducible] T.wp CV FWK
attribute [local irreducible] nearF rowF levelF
theorem c3203 {h:LH} {p:Option Addr} {n c:Nat} {l:List Int} (hl:Sl IntE 1 h.get p n l) (h0:∀ x ∈ l,0 <= x) (hn:0 < n):Pu Tryz.prog 121 #[.slice p n c] h (.int .i64 (l.foldl max 0)) := by
 refine w3203 _ _ _ X0_ok ?_;unfold n3203;have hln := hl.1;have hlb := hl.2.1;refine t_blk (fun vs h' => vs = [] /\ h = h') ?_ ?_
 ·refine t_cond (fun b => absurd (of_decide_eq_true b) (by omega)) (fun _ => ?_);exact t_again ⟨rfl,rfl⟩
 rintro _ _ ⟨rfl,rfl⟩;obtain ⟨x0,a0,e1,e2,e3⟩ := hl.at (i := 0) (by omega);unfold IntE at e3;rw [show (0:Nat) * 1 = 0 from rfl] at e3;have hin0:0 <= (0:Int) /\ (0:Int) < (n:Int) := by omega
 have hx0:0 <= x0 := h0 x0 (List.mem_of_getElem? e1);refine gZ ?_;refine t_loop (fun mm vs h' => h = h' /\ ∃ i:Nat,vs = [.int .i64 ((l.take i).foldl max 0),.int .i64 i] /\ 1 <= i /\ i <= n /\ mm = n - i) ⟨rfl,1,?_,by omega,by omega,rfl⟩ ?_
 ·have:l.take 1 = [x0] := by
   rw [List.take_add_one,List.take_zero,e1]; rfl
  rw [this]; simp [List.foldl,Int.max_eq_right hx0]
 rintro Y mm vs h' hY ⟨rfl,i,rfl,hi1,hi,rfl⟩;refine gZ ?_;refine t_if (fun e4 => ?_) (fun e4 => ?_)
 ·obtain ⟨x,a,f1,f2,f3⟩ := hl.at (i := i) (by omega);unfold IntE at f3;have hin:0 <= (i:Int) /\ (i:Int) < (n:Int) := by omega
  refine gZ ?_;refine t_again (hY (n - (i + 1)) _ _ (by omega) ⟨rfl,i + 1,?_,by omega,by omega,rfl⟩);have:l.take (i + 1) = l.take i ++ [x] := by rw [List.take_add_one,f1]; rfl
  rw [this,List.foldl_append,wrap_id (by omega) (by omega)];have hm:(if x > (l.take i).foldl max 0 then x else (l.take i).foldl max 0) = max ((l.take i).foldl max 0) x := by
   split <;> omega
  simp only [List.foldl];rw [hm]; rfl
 ·refine gZ ?_;rw [List.take_of_length_le (by omega)];exact t_ret ⟨rfl,rfl⟩
theorem work3199 {Wg C i bm bc N:Nat} {z1 z2 z3 z4 z5 z6:Addr} {hc k:Cells} {φ:Value -> Cells -> Prop} {f:TabC} {t:GTab} {e x:Int} {q:Option Addr} {b:List Int} {cc:Array Value} (hk:Rd k hc) (kC:k C = none) (hr:TabR k f t) (hb:Sl IntE 1 k q bm b)
  (h1:k.cell? z1 = some (.slice q bm bc)) (h2:k.cell? z2 = some (.slice (some ⟨C,0,none⟩) N N)) (h3:k.cell? z3 = some (.int .i64 i)) (h40:k.cell? (z4.add 0) = some (.slice f.p0 f.n0 f.c0)) (h41:k.cell? (z4.add 1) = some (.slice f.p1 f.n1 f.c1)) (h42:k.cell? (z4.add 2) = some (.slice f.p2 f.n2 f.c2))
  (h5:k.cell? z5 = some (.int .i64 e)) (h6:k.cell? z6 = some (.int .i64 x)) (hC:hc C = some (true,.pending cc 3)) (hci:cc[i]? = some (.int .i64 0)) (hiN:i < N) (hφ:φ (.int .i64 (rowF t e x b)) noCells) :
  (n3199 ⟨Wg,0,none⟩ z1 z2 z3 z4 z5 z6).wp X0 Tryz.prog (retQ fun _ h' => Kept C h') ⟨hc,[],List.replicate 7 [],[(i,φ)]⟩ := by
 unfold n3199;have hbn := hb.1;have hbb := hb.2.1;have g1 := hk _ _ h1;refine gZ ?_;refine t_loop (fun mm vs h' => ∃ (j:Nat) (c':Array Value),vs = [.int .i64 j] /\ j <= bm /\ mm = bm - j /\ h'.todo = [(i,φ)] /\ Rd k h'.get /\ h'.get C = some (true,.pending c' 3) /\ c'[i]? = some (.int .i64 (rowF t e x (b.take j))))
  ⟨0,cc,rfl,Nat.zero_le _,rfl,rfl,hk,hC,by rw [hci]; unfold rowF; rfl⟩ ?_
 rintro Y mm vs h' hY ⟨j,c',rfl,hj,rfl,td,rd,hC',hci'⟩;refine gZ ?_;refine t_if (fun e1 => ?_) (fun e1 => ?_)
 ·obtain ⟨y,ad,hy,had,e2⟩ := (hb.rd IntE.grow rd).at (i := j) (by omega);unfold IntE at e2;have hin:0 <= (j:Int) /\ (j:Int) < (bm:Int) := by omega
  have v2 := rd _ _ h2;have v3 := rd _ _ h3;have v40 := rd _ _ h40;have v41 := rd _ _ h41;have v42 := rd _ _ h42;have v5 := rd _ _ h5;have v6 := rd _ _ h6;have hin2:0 <= (i:Int) /\ (i:Int) < (N:Int) := by omega
  have vC:h'.get.cell? ((⟨C,0,none⟩ : Addr).add ((i:Int).toNat * 1)) = some (.int .i64 (rowF t e x (b.take j))) := by
   rw [addr_i]; exact pend_cell hC' hci' rfl
  refine gZ ?_;refine t_gr (c3201 (hr.rd rd) e x y) ?_;rintro _ h₃ le3 rfl;have rd3 := rd.trans (Rd.of_le le3.1);have w2 := rd3 _ _ h2;have w3 := rd3 _ _ h3;have wC := Cells.cell?_le le3.1 vC;have hC3 := le3.1 _ _ hC';refine gZ ?_;refine t_store rfl ⟨.pending c' 3,?_⟩ (v₀ := .int .i64 (rowF t e x (b.take j))) ?_ ?_ ?_
  ·rw [addr_i0]; exact hC3
  ·rw [addr_i0]; exact pend_cell hC3 hci' rfl
  ·unfold Cells.frozen?;rw [addr_i0]; simp only [hC3]
  ·rw [addr_i0];have hlt:i < c'.size := (Array.getElem?_eq_some_iff.1 hci').1;refine t_again (hY (bm - (j + 1)) _ _ (by omega) ⟨j + 1,c'.setIfInBounds i (.int .i64 (rowF t e x (b.take (j + 1)))),?_,by omega,rfl,?_,rd_store rfl rd3 kC,?_,?_⟩)
   ·rw [wrap_id (by omega) (by omega)]; rfl
   ·show h₃.todo = _; rw [le3.2.2.2]; exact td
   ·show Cells.setCell _ _ _ C = _;unfold Cells.setCell;rw [if_pos rfl,hC3];have hm:(if levelF t e x y > rowF t e x (b.take j) then levelF t e x y else rowF t e x (b.take j)) = rowF t e x (b.take (j + 1)) := by
     rw [rowF_take hy]; split <;> omega
    rw [hm]; rfl
   ·simp [hlt]
 ·refine gZ ?_;rw [List.take_of_length_le (by omega)] at hci';refine t_ret ⟨i,φ,c',3,_,td,hC',hci',rfl,hφ⟩
end Go.Proofs.YtfkfohpnpljihaaGreatDoor
end
section
namespace Go.TM
open Go Go.Conc
theorem freeze_all {k:Cells} {r:Nat} {x:Bool × Obj} (h:freezeC (fun _ => true) k r = some x):x.1 = false := by
 unfold freezeC at h;cases hy:k r with
 | none => rw [hy] at h; cases h
 | some y => rw [hy] at h; simp at h; rw [<- h]
theorem butC_none {k:Cells} {C:Nat}:butC k C C = none := by unfold butC; rw [if_pos rfl]
theorem butC_none' {k:Cells} {C D:Nat} (h:k C = none):butC k D C = none := by unfold butC; split; rfl; exact h
theorem keep_rd {k h:Cells} {C:Nat} {c1:Array Value} {e:TypeId} (hk:Rd k h) (kC:k C = none):Rd k (keepC (fun _ => true) h C c1 e) := by
 intro a v hv;have hne:a.block ≠ C := by
  intro e';unfold Cells.cell? at hv;rw [e',kC] at hv; cases hv
 have h1 := hk a v hv;rw [<- cell_freeze (fun _ => true)] at h1;unfold Cells.cell? at *;unfold keepC;rw [if_neg hne]; exact h1
theorem le_rd_upd {k h:Cells} {C:Nat} {x:Bool × Obj} (hk:Rd k h) (kC:k C = none):Rd k (h.upd C x) := by
 intro a v hv;have hne:a.block ≠ C := by
  intro e';unfold Cells.cell? at hv;rw [e',kC] at hv; cases hv
 have := hk a v hv;unfold Cells.cell? at *;rw [Cells.upd_ne _ _ hne]; exact this
structure Made (h h':LH) (r:Nat) (x:Bool × Obj):Prop where
 le:h.le h'
 new:h.get r = none
 at_:h'.get r = some x
 other:∀ r',r' ≠ r -> h'.get r' = h.get r'
theorem Made.upd {h:LH} {r:Nat} {x:Bool × Obj} (hr:h.get r = none):Made h { h with get := h.get.upd r x } r x := ⟨LH.upd_le hr,hr,Cells.upd_self _ _ _,fun r' hr' => Cells.upd_ne _ _ hr'⟩
theorem t_newM {X:XP} {P:Program} {Q:Leaf -> LH -> Prop} {h:LH} {e:TypeId} {cs:Array Value} {k:Nat -> T} (hk:∀ r h',Made h h' r (true,.cells cs e (0,0)) -> (k r).wp X P Q h'):(T.new e cs k).wp X P Q h :=
 t_new fun r hr => hk r _ (.upd hr)
theorem t_newStM {X:XP} {P:Program} {Q:Leaf -> LH -> Prop} {h:LH} {e:TypeId} {v₀ v:Value} {k:Nat -> T} (h1:isOne v = true) (hk:∀ r h',Made h h' r (true,.cells #[v] e (0,0)) -> (k r).wp X P Q h') :
  (T.new e #[v₀] fun r => T.store (Addr.add ⟨r,0,none⟩ 0) v (k r)).wp X P Q h := t_newSt h1 fun r hr => hk r _ (.upd hr)
theorem t_new2 {X:XP} {P:Program} {Q:Leaf -> LH -> Prop} {h:LH} {e:TypeId} {v₀ v w₀ w:Value} {k:Nat -> Nat -> T} (h1:isOne v = true) (h2:isOne w = true)
  (hk:∀ r s (h':LH),h.le h' -> h.get r = none -> h.get s = none -> r ≠ s -> h'.get.cell? ⟨r,0,none⟩ = some v -> h'.get.cell? ⟨s,0,none⟩ = some w -> (k r s).wp X P Q h') :
  (T.new e #[v₀] fun r => T.new e #[w₀] fun s => T.store (Addr.add ⟨r,0,none⟩ 0) v (T.store (Addr.add ⟨s,0,none⟩ 0) w (k r s))).wp X P Q h := by
 refine t_new fun r hr => ?_;refine t_new fun s hs => ?_;have hrs:r ≠ s := by
  rintro rfl;change (h.get.upd r _) r = none at hs;rw [Cells.upd_self] at hs; cases hs
 have hs':h.get s = none := by
  change (h.get.upd r _) s = none at hs;rw [Cells.upd_ne _ _ (Ne.symm hrs)] at hs; exact hs
 have own1:((h.get.upd r (true,.cells #[v₀] e (0,0))).upd s (true,.cells #[w₀] e (0,0))) r = some (true,.cells #[v₀] e (0,0)) := by
  rw [Cells.upd_ne _ _ hrs,Cells.upd_self]
 refine t_store h1 ⟨_,own1⟩ (v₀ := v₀) (by show Cells.cell? _ ⟨r,0,none⟩ = _; unfold Cells.cell?; simp only [own1]; rfl) (by show Cells.frozen? _ ⟨r,0,none⟩ = _; unfold Cells.frozen?; simp only [own1]; rfl) ?_;have own2:(Cells.setCell ((h.get.upd r (true,.cells #[v₀] e (0,0))).upd s (true,.cells #[w₀] e (0,0))) ⟨r,0,none⟩ v) s = some (true,.cells #[w₀] e (0,0)) := by
  unfold Cells.setCell;rw [if_neg (fun e' => hrs e'.symm),Cells.upd_self]
 refine t_store h2 ⟨_,own2⟩ (v₀ := w₀) (by show Cells.cell? (Cells.setCell _ _ _) ⟨s,0,none⟩ = _; unfold Cells.cell?; rw [show (Cells.setCell ((h.get.upd r (true,.cells #[v₀] e (0,0))).upd s (true,.cells #[w₀] e (0,0))) (Addr.add ⟨r,0,none⟩ 0) v) (⟨s,0,none⟩ : Addr).block = _ from own2]; rfl)
  (by show Cells.frozen? (Cells.setCell _ _ _) ⟨s,0,none⟩ = _; unfold Cells.frozen?; rw [show (Cells.setCell ((h.get.upd r (true,.cells #[v₀] e (0,0))).upd s (true,.cells #[w₀] e (0,0))) (Addr.add ⟨r,0,none⟩ 0) v) (⟨s,0,none⟩ : Addr).block = _ from own2]; rfl) ?_
 have fin:∀ b,(Cells.setCell (Cells.setCell ((h.get.upd r (true,.cells #[v₀] e (0,0))).upd s (true,.cells #[w₀] e (0,0))) ⟨r,0,none⟩ v) ⟨s,0,none⟩ w) b = if b = s then some (true,.cells #[w] e (0,0)) else if b = r then some (true,.cells #[v] e (0,0)) else h.get b := by
  intro b;unfold Cells.setCell Cells.upd;by_cases e1:b = s
  ·subst e1; simp [Ne.symm hrs]
  ·by_cases e2:b = r
   ·subst e2; simp [hrs]
   ·simp [e1,e2]
 refine hk r s _ ⟨fun b x hx => ?_,rfl,rfl,rfl⟩ hr hs' hrs ?_ ?_
 ·show (Cells.setCell (Cells.setCell _ ⟨r,0,none⟩ v) ⟨s,0,none⟩ w) b = _;rw [fin,if_neg (fun e => by subst e; rw [hs'] at hx; cases hx),if_neg (fun e => by subst e; rw [hr] at hx; cases hx)]; exact hx
 ·show Cells.cell? (Cells.setCell (Cells.setCell _ ⟨r,0,none⟩ v) ⟨s,0,none⟩ w) ⟨r,0,none⟩ = _;unfold Cells.cell?; simp only [fin,if_neg hrs,if_true]; rfl
 ·show Cells.cell? (Cells.setCell (Cells.setCell _ ⟨r,0,none⟩ v) ⟨s,0,none⟩ w) ⟨s,0,none⟩ = _;unfold Cells.cell?; simp only [fin,if_true]; rfl
end Go.TM
namespace Go.Proofs.YtfkfohpnpljihaaGreatDoor
open Go Go.TM Go.Proofs Go.Conc
open Go.ConcR (wgBlock)
set_option linter.unusedVariables false
set_option maxRecDepth 100000
attribute [local irreducible] T.wp CV FWK
attribute [local irreducible] nearF rowF levelF
def proms (t:GTab) (e:Int) (a b:List Int) (i:Nat):List Script := (List.range i).map fun j => [(j,fun v _ => ∃ x,a[j]? = some x /\ v = .int .i64 (rowF t e x b))]
def cellsAt (n i:Nat) (cc:Array Value):Prop := cc.size = n /\ ∀ j,j < n -> cc[j]? = some (if j < i then .tuple #[] else .int .i64 0)
theorem cellsAt.step {n i:Nat} {cc:Array Value} (h:cellsAt n i cc) (hi:i < n):cellsAt n (i + 1) (cc.setIfInBounds i (.tuple #[])) := by
 refine ⟨by rw [Array.size_setIfInBounds]; exact h.1,fun j hj => ?_⟩;rw [Array.getElem?_setIfInBounds];by_cases e:i = j
 ·subst e; simp [h.1,hj]
 ·simp only [e,if_false];rw [h.2 j hj];by_cases e2:j < i
  ·rw [if_pos e2,if_pos (by omega)]
  ·rw [if_neg e2,if_neg (by omega)]
def oneCell (n i:Nat):Array Value := (Array.replicate n (.tuple #[])).setIfInBounds i (.int .i64 0)
theorem oneCell_size (n i:Nat):(oneCell n i).size = n := by simp [oneCell]
theorem oneCell_get {n i:Nat} {j:Nat} {v:Value} (h:(oneCell n i)[j]? = some v) (hn:notHole v = true):j = i /\ v = .int .i64 0 := by
 unfold oneCell at h;rw [Array.getElem?_setIfInBounds] at h;by_cases e:i = j
 ·subst e;rw [if_pos rfl] at h;split at h
  ·exact ⟨rfl,(Option.some.inj h).symm⟩
  ·cases h
 ·rw [if_neg e,Array.getElem?_replicate] at h;split at h
  ·cases h; cases hn
  ·cases h
theorem oneCell_own {n i:Nat} (hi:i < n):(oneCell n i)[i]? = some (.int .i64 0) := by
 unfold oneCell; simp [hi]
def NearSt (t:GTab) (e:Int) (a b:List Int) (rC r4 n i:Nat) (h:LH):Prop :=
 (i = 0 /\ h.chans = [] /\ h.pend = [] /\ h.get r4 = some (true,wgBlock lk.tWg 0 0) /\ ∃ cc,h.get rC = some (true,.cells cc 3 (0,0)) /\ cellsAt n 0 cc) \/
 (0 < i /\ h.chans = [rC,r4,0] /\ h.pend = [] :: proms t e a b i /\ ∃ cc,h.get rC = some (true,.pending cc 3) /\ cellsAt n i cc)
theorem NearSt.le {t:GTab} {e:Int} {a b:List Int} {rC r4 n i:Nat} {h h':LH} (hl:h.le h') (s:NearSt t e a b rC r4 n i h):NearSt t e a b rC r4 n i h' := by
 rcases s with ⟨a1,a2,a3,a4,cc,a5,a6⟩ | ⟨a1,a2,a3,cc,a4,a5⟩
 ·exact .inl ⟨a1,by rw [hl.2.1]; exact a2,by rw [hl.2.2.1]; exact a3,hl.1 _ _ a4,cc,hl.1 _ _ a5,a6⟩
 ·exact .inr ⟨a1,by rw [hl.2.1]; exact a2,by rw [hl.2.2.1]; exact a3,cc,hl.1 _ _ a4,a5⟩
theorem NearSt.ne {t:GTab} {e:Int} {a b:List Int} {rC r4 n i r:Nat} {h:LH} (s:NearSt t e a b rC r4 n i h) (hr:h.get r = none):r ≠ rC /\ (i = 0 -> r ≠ r4) := by
 rcases s with ⟨a1,a2,a3,a4,cc,a5,a6⟩ | ⟨a1,a2,a3,cc,a4,a5⟩
 ·exact ⟨fun e => (by subst e; rw [a5] at hr; cases hr),fun _ e => (by subst e; rw [a4] at hr; cases hr)⟩
 ·exact ⟨fun e => (by subst e; rw [a4] at hr; cases hr),fun e => absurd e (by omega)⟩
theorem near_begun {t:GTab} {e:Int} {a b:List Int} {rC r4 n i:Nat} {h:LH} {f:FuncId} {args:Array Value} {Q:Value -> LH -> Prop} (hne:rC ≠ r4) (hs:NearSt t e a b rC r4 n i h)
  (hF:∀ h':LH,h'.chans = [rC,r4,0] -> h'.pend = [] :: proms t e a b i -> h'.todo = h.todo -> (∃ cc,h'.get rC = some (true,.pending cc 3) /\ cellsAt n i cc) -> (∀ r,r ≠ rC -> (i = 0 -> r ≠ r4) -> h'.get r = h.get r) -> FW (XG lk) Tryz.prog f args h' Q):FW (XG lk) Tryz.prog f args h Q := by
 rcases hs with ⟨rfl,h1,h2,h3,cc,h4,h5⟩ | ⟨_,h1,h2,h3⟩
 ·refine FW.begun h1 h2 hne h4 (fun j v hv => ?_) h3 (hF _ rfl rfl rfl ⟨cc,?_,h5⟩ fun r e1 e2 => ?_)
  ·have hj:j < n := by rw [<- h5.1]; exact (Array.getElem?_eq_some_iff.1 hv).1
   have := h5.2 j hj;rw [hv] at this; cases this; rfl
  ·show partedW _ _ _ _ _ rC = _;unfold partedW; rw [if_pos rfl]
  ·show partedW _ _ _ _ _ r = _;unfold partedW; rw [if_neg e1,if_neg (e2 rfl)]
 ·exact hF h h1 h2 rfl h3 fun _ _ _ => rfl
theorem c3178 {h:LH} (hch:h.chans = []) (hpe:h.pend = []) {f:TabC} {t:GTab} (hr:TabR h.get f t) (e:Int) {p q:Option Addr} {n c m d:Nat} {a b:List Int} (ha:Sl IntE 1 h.get p n a) (hb:Sl IntE 1 h.get q m b) (h20:a.length <= 2 ^ 20) :
  FW (XG lk) Tryz.prog 72 #[tabV f,.int .i64 e,.slice p n c,.slice q m d] h fun r h' => Rd h.get h'.get /\ h'.chans = [] /\ h'.pend = [] /\ h'.todo = h.todo /\ r = .int .i64 (nearF t e a b) := by
 refine w3178 _ _ _ _ _ _ _ _ _ _ _ _ _ _ _ _ XG_ok ?_;unfold n3178;have hna := ha.1;refine t_newM fun r0 h1 m0 => ?_;refine t_newM fun r1 h2 m1 => ?_;refine t_newM fun r2 h3 m2 => ?_;refine t_makeSlice und50 inf3 rfl (by decide) (by omega) fun rC cs hrC hcs hz => ?_;have mC := Made.upd (h := h3) (x := (true,.cells cs 3 (0,0))) hrC;generalize ({ h3 with get := h3.get.upd rC (true,.cells cs 3 (0,0)) }:LH) = h4 at mC ⊢;refine gZ ?_;refine t_newStM rfl fun r3 h5 m3 => ?_;refine t_newM fun r4 h6 m4 => ?_;have le3 := LH.le_trans m0.le (LH.le_trans m1.le m2.le);have le5 := LH.le_trans mC.le m3.le;have le6 := LH.le_trans (LH.le_trans le3 le5) m4.le;have neC4:rC ≠ r4 := by
  rintro rfl;have := m3.le.1 _ _ mC.at_;rw [m4.new] at this; cases this
 have fresh:∀ {r x},h3.get r = some x -> r ≠ rC /\ r ≠ r4 := by
  intro r x hx;refine ⟨fun e => ?_,fun e => ?_⟩
  ·subst e; rw [hrC] at hx; cases hx
  ·subst e;have := (LH.le_trans mC.le m3.le).1 _ _ hx;rw [m4.new] at this; cases this
 let K := butC (butC h6.get rC) r4;have K3:h3.get.le K := by
  intro r x hx;obtain ⟨n1,n2⟩ := fresh hx;show (if r = r4 then none else if r = rC then none else h6.get r) = some x;rw [if_neg n2,if_neg n1];exact (LH.le_trans le5 m4.le).1 _ _ hx
 have KC:K rC = none := butC_none' butC_none;have K4:K r4 = none := butC_none;have r3C:r3 ≠ rC := by
  rintro rfl;have := m3.new;rw [mC.at_] at this; cases this
 have r34:r3 ≠ r4 := by
  rintro rfl;have := m4.new;rw [m3.at_] at this; cases this
 have Kr3:K r3 = some (true,.cells #[.slice (some ⟨rC,0,none⟩) n n] 30 (0,0)) := by
  show (if r3 = r4 then none else if r3 = rC then none else h6.get r3) = _;rw [if_neg r34,if_neg r3C]; exact m4.le.1 _ _ m3.at_
 have hrK := hr.le (Cells.le_trans le3.1 K3);have haK := ha.le IntE.grow (Cells.le_trans le3.1 K3);have hbK := hb.le IntE.grow (Cells.le_trans le3.1 K3);have b0 := K3 _ _ ((LH.le_trans m1.le m2.le).1 _ _ m0.at_);have b1 := K3 _ _ (m2.le.1 _ _ m1.at_);have b2 := K3 _ _ m2.at_;have box:∀ {r i:Nat} {cs:Array Value} {el:TypeId} {v:Value},K r = some (true,.cells cs el (0,0)) -> cs[i]? = some v -> K.cell? ⟨r,i,none⟩ = some v := by
  intro r i cs el v h1 h2;unfold Cells.cell?; simp only [h1]; exact h2
 have KRd:Rd K h6.get := by
  intro a' v hv;obtain ⟨_,hv⟩ := butC_cell hv;exact (butC_cell hv).2
 refine t_loop (fun mm vs h' => ∃ i:Nat,vs = [.int .i64 i] /\ i <= n /\ mm = n - i /\ h'.todo = h.todo /\ Rd K h'.get /\ NearSt t e a b rC r4 n i h')
  ⟨0,rfl,Nat.zero_le _,rfl,le6.2.2.2,KRd,.inl ⟨rfl,by rw [le6.2.1,hch],by rw [le6.2.2.1,hpe],m4.at_,cs,(LH.le_trans m3.le m4.le).1 _ _ mC.at_,hcs,fun j hj => by rw [hz j hj]; simp⟩⟩ ?_
 rintro Y mm vs h₇ hY ⟨i,rfl,hi,rfl,td7,rd7,st7⟩;refine gZ ?_;refine t_if (fun e1 => ?_) (fun e1 => ?_)
 ·obtain ⟨x,ad,hx,had,e2⟩ := (haK.rd IntE.grow rd7).at (i := i) (by omega);unfold IntE at e2;have hin:0 <= (i:Int) /\ (i:Int) < (n:Int) := by omega
  refine gZ ?_;refine t_new2 rfl rfl fun r5 r6 h₈ le8 hr5 hr6 hne56 z5 z6 => ?_;have rd8 := rd7.trans (Rd.of_le le8.1);have n5 := st7.ne hr5;have n6 := st7.ne hr6;have st8 := st7.le le8;have same8:∀ {k:Cells},(∀ r,r ≠ rC -> (i = 0 -> r ≠ r4) -> k r = h₈.get r) -> Rd K k /\ k.cell? ⟨r5,0,none⟩ = some (.int .i64 i) /\ k.cell? ⟨r6,0,none⟩ = some (.int .i64 x) := by
   intro k hk;refine ⟨fun a' v hv => ?_,?_,?_⟩
   ·obtain ⟨m1,hv1⟩ := butC_cell hv;obtain ⟨m2,_⟩ := butC_cell hv1;have := rd8 a' v hv;unfold Cells.cell? at *;rw [hk _ m2 fun _ => m1]; exact this
   ·unfold Cells.cell? at *;rw [hk r5 n5.1 n5.2]; exact z5
   ·unfold Cells.cell? at *;rw [hk r6 n6.1 n6.2]; exact z6
  refine t_call (A := fun v h' => v = .tuple #[] /\ h'.chans = [rC,r4,1] /\ h'.pend = [] :: proms t e a b i /\ h'.todo = h.todo /\ Rd K h'.get /\ h'.get.cell? ⟨r5,0,none⟩ = some (.int .i64 i) /\ h'.get.cell? ⟨r6,0,none⟩ = some (.int .i64 x) /\ ∃ cc,h'.get rC = some (true,.pending cc 3) /\ cellsAt n i cc)
   (near_begun neC4 st8 fun h₉ c9 p9 t9 hcc9 same => fw_add lib c9 p9 ⟨rfl,rfl,p9,by show h₉.todo = _; rw [t9,le8.2.2.2]; exact td7,(same8 same).1,(same8 same).2.1,(same8 same).2.2,hcc9⟩) ?_
  rintro _ h₁₀ ⟨rfl,c10,p10,t10,rd10,y5,y6,cc,hcc,hat⟩;refine gZ ?_;have hin':i < n := by omega
  have c1s := hat.step hin';have hlen:(proms t e a b i).length = i := by unfold proms; simp
  refine t_spawn (spawnG (C := rC) (Wg := r4) (F := fun _ => true) (hc := fun r => if r = rC then some (true,.pending (oneCell n i) 3) else freezeC (fun _ => true) h₁₀.get r) (c := cc) (cc := oneCell n i) (c1 := cc.setIfInBounds i (.tuple #[])) (e := 3) (j := i) (φ := fun v _ => ∃ x,a[i]? = some x /\ v = .int .i64 (rowF t e x b)) c10 p10 (by rw [hlen]; omega) ⟨?_,hcc,?_,?_,?_,?_,?_⟩ ?_ ?_)
  ·intro r x' hr' hx';simp only [if_neg hr'] at hx';exact ⟨freeze_all hx',hx'⟩
  ·simp only [if_true]
  ·rw [oneCell_size,hat.1]
  ·rw [Array.size_setIfInBounds]
  ·intro j v hj hn;obtain ⟨rfl,rfl⟩ := oneCell_get hj hn;refine ⟨by rw [hat.2 j hin',if_neg (by omega)],fun v hv => ?_⟩;rw [c1s.2 j hin',if_pos (by omega)] at hv;cases hv; rfl
  ·intro j v hj hn;have hjn:j < n := by rw [<- c1s.1]; exact (Array.getElem?_eq_some_iff.1 hj).1
   rw [c1s.2 j hjn] at hj;split at hj
   ·cases hj; cases hn
   ·rename_i hlt;rw [hat.2 j hjn,if_neg (by omega)]; exact hj
  ·-- the worker
   have kb:∀ {a':Addr} {v:Value},a'.block ≠ rC -> h₁₀.get.cell? a' = some v -> (butC h₁₀.get rC).cell? a' = some v := by
    intro a' v hne hv;unfold Cells.cell? butC at *;rw [if_neg hne]; exact hv
   have kK:Rd K (butC h₁₀.get rC) := by
    intro a' v hv;obtain ⟨_,hv1⟩ := butC_cell hv;exact kb (butC_cell hv1).1 (rd10 a' v hv)
   have q0:K.cell? (Addr.add ⟨r0,0,none⟩ 0) = some (.slice f.p0 f.n0 f.c0) := by rw [add_plain]; exact box b0 rfl
   have q1:K.cell? (Addr.add ⟨r0,0,none⟩ 1) = some (.slice f.p1 f.n1 f.c1) := by rw [add_plain]; exact box b0 rfl
   have q2:K.cell? (Addr.add ⟨r0,0,none⟩ 2) = some (.slice f.p2 f.n2 f.c2) := by rw [add_plain]; exact box b0 rfl
   refine w3199 (work3199 (k := butC h₁₀.get rC) (f := f) (t := t) (e := e) (x := x) (q := q) (b := b) (bm := m) (bc := d) (N := n) (cc := oneCell n i) ?_ butC_none (hrK.rd kK) (hbK.rd IntE.grow kK) (kK _ _ (box b2 rfl)) (kK _ _ (box Kr3 rfl)) (kb n5.1 y5) (kK _ _ q0) (kK _ _ q1) (kK _ _ q2) (kK _ _ (box b1 rfl)) (kb n6.1 y6) (by simp only [if_true]) (oneCell_own hin') hin' ⟨x,hx,rfl⟩);intro a' v hv;obtain ⟨hne,hv1⟩ := butC_cell hv;rw [<- cell_freeze (fun _ => true)] at hv1;unfold Cells.cell? at *;simp only [if_neg hne]; exact hv1
  ·refine t_again (hY (n - (i + 1)) _ _ (by omega) ⟨i + 1,?_,by omega,rfl,t10,keep_rd rd10 KC,.inr ⟨by omega,rfl,?_,_,?_,c1s⟩⟩)
   ·rw [wrap_id (by omega) (by omega)]; rfl
   ·show [] :: (proms t e a b i ++ _) = _;unfold proms;rw [List.range_succ,List.map_append]; rfl
   ·show keepC _ _ rC _ _ rC = _;unfold keepC; rw [if_pos rfl]
 ·refine gZ ?_;have hin:i = n := by omega
  subst hin;refine t_call (A := fun v h' => v = .tuple #[] /\ h'.chans = [] /\ h'.pend = [] /\ h'.todo = h.todo /\ Rd K h'.get /\ Sl IntE 1 h'.get (some ⟨rC,0,none⟩) i (a.map fun x => rowF t e x b))
   (near_begun neC4 st7 fun h₉ c9 p9 t9 ⟨cc,hcc,hat⟩ same => fw_wait lib c9 p9 hcc (fun j v hv => ?_) fun c' hJ => ⟨rfl,rfl,rfl,by show h₉.todo = _; rw [t9]; exact td7,?_,?_⟩) ?_
  ·have hj:j < i := by rw [<- hat.1]; exact (Array.getElem?_eq_some_iff.1 hv).1
   refine .inr ⟨fun v _ => ∃ x,a[j]? = some x /\ v = .int .i64 (rowF t e x b),?_⟩;unfold proms;exact List.mem_map.2 ⟨j,List.mem_range.2 hj,rfl⟩
  ·refine le_rd_upd (fun a' v hv => ?_) KC;obtain ⟨m1,hv1⟩ := butC_cell hv;obtain ⟨m2,_⟩ := butC_cell hv1;have := rd7 a' v hv;unfold Cells.cell? at *;rw [same _ m2 fun _ => m1]; exact this
  ·refine ⟨by rw [List.length_map]; exact hna,by rw [List.length_map]; omega,fun j v hv => ?_⟩;rw [List.getElem?_map] at hv;cases hx:a[j]? with
   | none => rw [hx] at hv; cases hv
   | some x =>
    rw [hx] at hv; cases hv;have hj:j < i := by rw [hna]; exact (List.getElem?_eq_some_iff.1 hx).1
    obtain ⟨v,g1,_,x',g2,g3⟩ := hJ.theirs j (fun v _ => ∃ x,a[j]? = some x /\ v = .int .i64 (rowF t e x b)) (by
     unfold proms; exact List.mem_map.2 ⟨j,List.mem_range.2 hj,rfl⟩)
    rw [hx] at g2; cases g2;refine ⟨_,rfl,?_⟩;unfold IntE;rw [Nat.mul_one,add_plain,Nat.zero_add,add_plain,Nat.add_zero];show Cells.cell? (h₉.get.upd rC _) _ = _;rw [cell_upd g1,g3]
  ·rintro _ h₉ ⟨rfl,c9,p9,t9,rd9,hsl⟩;refine gZ ?_;have y3 := rd9 _ _ (box (i := 0) Kr3 rfl);have post:Rd h.get h₉.get := (Rd.of_le (Cells.le_trans le3.1 K3)).trans rd9;have near:(a.map fun x => rowF t e x b).foldl max 0 = nearF t e a b := by
    unfold nearF; rw [List.foldl_map]
   refine gZ ?_;refine t_cond (fun e0 => ?_) (fun e0 => ?_)
   ·have h0:i = 0 := by simpa using e0
    have ha0:a = [] := List.length_eq_zero_iff.1 (by omega);refine t_ret ⟨post,c9,p9,t9,?_⟩;rw [<- near,ha0]; rfl
   ·have h0:¬ i = 0 := by simpa using e0
    refine gZ ?_;refine t_pu (c3203 hsl (fun v hv => ?_) (by omega)) ?_
    ·obtain ⟨x,_,rfl⟩ := List.mem_map.1 hv;exact rowF_nonneg _ _ _ _
    refine gZ ?_;rw [near];exact t_ret ⟨post,c9,p9,t9,rfl⟩
end Go.Proofs.YtfkfohpnpljihaaGreatDoor
end
section
namespace Go.TM
open Go Go.Conc
variable {P:Program} {E:Halt -> Cells -> Prop} {h:Cells}
theorem lwp_equalIn2 {Q:Bool -> Cells -> Prop} {t:TypeId} {k:Nat} {a b c d:Int} (ht:twoInts P t = true) (hq:Q (decide (a = c /\ b = d)) h):Sem.lwp P (Op.equalIn (k + 1 + 1) t (.agg #[.int .i64 a,.int .i64 b]) (.agg #[.int .i64 c,.int .i64 d])) Q E h := by
 obtain ⟨f,g,hu,n1,n2,i1,i2,o1,o2,hs⟩ := twoInts_spec ht;rw [Op.equalIn];rw [lwp_bind,lwp_underlying hu];simp only [lwp_bind,lwp_program,hs,Bool.false_eq_true,if_false,List.forIn_toArray,List.forIn_cons,List.forIn_nil,n1,n2,ne_eq,not_false_eq_true,if_true];refine lwp_partI i1 (v := .int .i64 a) (by rw [o1]; rfl) ?_;refine lwp_partI i1 (v := .int .i64 c) (by rw [o1]; rfl) ?_;refine lwp_equalI i1 ?_;by_cases e1:a = c
 ·subst e1;simp only [beq_self_eq_true,Bool.not_true,Bool.false_eq_true,if_false,lwp_pure,lwp_bind];refine lwp_partI i2 (v := .int .i64 b) (by rw [o2]; rfl) ?_;refine lwp_partI i2 (v := .int .i64 d) (by rw [o2]; rfl) ?_;refine lwp_equalI i2 ?_;by_cases e2:b = d
  ·subst e2;simpa [lwp_pure] using hq
  ·have e3:(b == d) = false := by simpa using e2
   simpa [lwp_pure,e2,e3] using hq
 ·have e3:(a == c) = false := by simpa using e1
  simpa [lwp_pure,e1,e3] using hq
def twoAndTwo (P:Program) (t:TypeId):Bool := match P.underlying t with
 | some (.struct fs) => (match fs.toList with
  | [a, b, w] => a.name != "_" && b.name != "_" && w.name != "_" && isI64 P a.type && isI64 P b.type && twoInts P w.type && Nat.beq a.offset 0 && Nat.beq b.offset 1 && Nat.beq w.offset 2 && (match P.info? w.type with | some i => Nat.beq i.size 2 | none => false)
  | _ => false) && !P.stoodInHeld t
 | _ => false
theorem twoInts_agg {t:TypeId} (ht:twoInts P t = true):isAggT P t = true := by
 obtain ⟨f,g,hu,_⟩ := twoInts_spec ht;unfold isAggT; rw [hu]
theorem lwp_part2 {Q:Value -> Cells -> Prop} {t:TypeId} {cs:Array Value} {o:Nat} {i:TypeInfo} (ht:twoInts P t = true) (hi:P.info? t = some i) (hs:i.size = 2) (hq:Q (.agg (cs.extract o (o + 2))) h):Sem.lwp P (part t cs o) Q E h := by
 unfold part;rw [lwp_bind,lwp_isAgg_true (twoInts_agg ht)];simp only [if_true,lwp_bind,lwp_sizeOf hi,hs,lwp_pure];exact hq
theorem lwp_equal4 {Q:Bool -> Cells -> Prop} {t:TypeId} {a b c d a' b' c' d':Int} (ht:twoAndTwo P t = true) (hq:Q (decide (a = a' /\ b = b' /\ c = c' /\ d = d')) h):Sem.lwp P (Op.equal t (.agg #[.int .i64 a,.int .i64 b,.int .i64 c,.int .i64 d]) (.agg #[.int .i64 a',.int .i64 b',.int .i64 c',.int .i64 d'])) Q E h := by
 unfold twoAndTwo at ht;split at ht
 next fs hu =>
  simp only [Bool.and_eq_true,Bool.not_eq_true'] at ht;obtain ⟨h1,hs⟩ := ht;split at h1
  next x y w hfs =>
   simp only [Bool.and_eq_true,bne_iff_ne] at h1;obtain ⟨⟨⟨⟨⟨⟨⟨⟨⟨n1,n2⟩,n3⟩,i1⟩,i2⟩,i3⟩,o1⟩,o2⟩,o3⟩,sz⟩ := h1;have hfs':fs = #[x,y,w] := by rw [<- hfs]
   subst hfs';have o1 := nbeq_true o1;have o2 := nbeq_true o2;have o3 := nbeq_true o3;cases hi:P.info? w.type with
   | none => rw [hi] at sz; cases sz
   | some inf =>
    rw [hi] at sz;have sz := nbeq_true sz;unfold Op.equal;have hmd:Op.maxDepth = 9997 + 1 + 1 + 1 := rfl;rw [hmd,Op.equalIn];rw [lwp_bind,lwp_underlying hu];simp only [lwp_bind,lwp_program,hs,Bool.false_eq_true,if_false,List.forIn_toArray,List.forIn_cons,List.forIn_nil,n1,n2,n3,ne_eq,not_false_eq_true,if_true];refine lwp_partI i1 (v := .int .i64 a) (by rw [o1]; rfl) ?_;refine lwp_partI i1 (v := .int .i64 a') (by rw [o1]; rfl) ?_;refine lwp_equalI i1 ?_;by_cases e1:a = a'
    ·subst e1;simp only [beq_self_eq_true,Bool.not_true,Bool.false_eq_true,if_false,lwp_pure,lwp_bind];refine lwp_partI i2 (v := .int .i64 b) (by rw [o2]; rfl) ?_;refine lwp_partI i2 (v := .int .i64 b') (by rw [o2]; rfl) ?_;refine lwp_equalI i2 ?_;by_cases e2:b = b'
     ·subst e2;simp only [beq_self_eq_true,Bool.not_true,Bool.false_eq_true,if_false,lwp_pure,lwp_bind];refine lwp_part2 i3 hi sz ?_;refine lwp_part2 i3 hi sz ?_;rw [o3];refine lwp_equalIn2 (a := c) (b := d) (c := c') (d := d') i3 ?_;by_cases e3:c = c' /\ d = d'
      ·simpa [lwp_pure,e3] using hq
      ·simpa [lwp_pure,e3] using hq
     ·have e3:(b == b') = false := by simpa using e2
      simpa [lwp_pure,e2,e3] using hq
    ·have e3:(a == a') = false := by simpa using e1
     simpa [lwp_pure,e1,e3] using hq
  next => cases h1
 next => cases ht
variable {X:XP} {Q:Leaf -> LH -> Prop}
theorem t_ne4 {h:LH} {K:Value -> T} {t:TypeId} {x y:Operand} {a b c d a' b' c' d':Int} (ht:twoAndTwo P t = true) (hg:P.eqGuardType P.depth t = false) (hk:(K (.bool (!decide (a = a' /\ b = b' /\ c = c' /\ d = d')))).wp X P Q h) :
  (T.sem false (Sem.bind (eqGuard .neq t x y (.agg #[.int .i64 a,.int .i64 b,.int .i64 c,.int .i64 d]) (.agg #[.int .i64 a',.int .i64 b',.int .i64 c',.int .i64 d'])) fun _ => binOp .neq t (.agg #[.int .i64 a,.int .i64 b,.int .i64 c,.int .i64 d]) (.agg #[.int .i64 a',.int .i64 b',.int .i64 c',.int .i64 d'])) K).wp X P Q h := by
 refine t_sem (A := fun w h' => w = .bool (!decide (a = a' /\ b = b' /\ c = c' /\ d = d')) /\ h' = h.get) (Sem.lwp_bind _ _ ?_) (by rintro w h' ⟨rfl,rfl⟩; exact hk);unfold eqGuard;simp only [Bool.not_true,Bool.false_eq_true,if_false,lwp_bind,lwp_program,hg,Bool.not_false,if_true,lwp_pure];unfold binOp;rw [lwp_bind];exact lwp_equal4 ht ⟨rfl,rfl⟩
end Go.TM
end
namespace Go.Proofs.YtfkfohpnpljihaaGreatDoor
section
open Go Go.TM Go.Proofs
attribute [local irreducible] T.wp CV FWK
theorem two79:twoAndTwo Tryz.prog 91 = true := by kernel_rfl
theorem g79:Tryz.prog.eqGuardType Tryz.prog.depth 91 = false := by kernel_rfl
theorem c30 {h:LH} {p q:Option Addr} {n c m d:Nat} {a b:List Lack} (ha:Sl LackE 4 h.get p n a) (hb:Sl LackE 4 h.get q m b):Pu Tryz.prog 35 #[.slice p n c,.slice q m d] h (.bool (decide (a = b))) := by
 refine w30 _ _ _ _ _ _ X0_ok ?_;unfold n30;have hn := ha.1;have hm := hb.1;have hbn := ha.2.1;have hbm := hb.2.1;refine t_cond (fun e => ?_) (fun e => ?_)
 ·have:a ≠ b := by rintro rfl; simp at e; omega
  exact t_ret ⟨by simp [this],rfl⟩
 have hnm:n = m := by simp at e; omega
 refine t_loop (fun mm vs h' => h = h' /\ ∃ i:Nat,vs = [.bool false,.int .i64 i] /\ i <= n /\ mm = n - i /\ a.take i = b.take i) ⟨rfl,0,rfl,Nat.zero_le _,rfl,rfl⟩ ?_;rintro Y mm vs _ hY ⟨rfl,i,rfl,hi,rfl,hc⟩;refine gZ ?_;refine t_if (fun e => ?_) (fun e => ?_)
 ·obtain ⟨x,a1,hx,ha1,e1,e2,e3,e4⟩ := ha.at (i := i) (by omega);obtain ⟨y,a2,hy,ha2,f1,f2,f3,f4⟩ := hb.at (i := i) (by omega);refine gZ ?_;refine t_ne4 two79 g79 ?_;refine gZ ?_;refine t_cond (fun b1 => ?_) (fun b1 => ?_)
  ·refine gZ ?_;have:a ≠ b := by rintro rfl; rw [hx] at hy; cases hy; simp at b1
   exact t_ret ⟨by simp [this],rfl⟩
  ·have b2:x = y := by
    obtain ⟨x1,x2,x3,x4⟩ := x;obtain ⟨y1,y2,y3,y4⟩ := y;simp at b1;obtain ⟨rfl,rfl,rfl,rfl⟩ := b1;rfl
   refine t_again (hY (n - (i + 1)) _ _ (by omega) ⟨rfl,i + 1,?_,by omega,rfl,?_⟩)
   ·rw [wrap_id (by omega) (by omega)]; rfl
   ·rw [List.take_add_one,List.take_add_one,hc,hx,hy,b2]
 ·refine gZ ?_;rw [List.take_of_length_le (by omega),List.take_of_length_le (by omega)] at hc;exact t_ret ⟨by simp [hc],rfl⟩
theorem c15 {h:LH} {f:FileC} {u:UseFile} (hu:FileR h.get f u):FW X0 Tryz.prog 20 #[fileV f u] h fun r h' => h = h' /\ ∃ b:Bool,r = .bool b /\ (b = false -> u.excuses.length <= 20 /\ u.papers.length <= 20 /\ u.requests.length <= 20) := by
 refine w15 _ _ _ _ _ _ _ _ _ _ _ _ _ X0_ok ?_;unfold n15;have x0 := hu.excuses.1;have p0 := hu.papers.1;have r0 := hu.requests.1;have pb := hu.papers.2.1;have rb := hu.requests.2.1;refine t_blk (fun vs h' => vs = [.bool false] /\ h = h' /\ u.excuses.length <= 20 /\ u.papers.length <= 20 /\ u.requests.length <= 20) ?_ ?_
 ·refine t_if (fun e1 => ?_) (fun e1 => ?_)
  ·refine gZ ?_;exact t_ret ⟨rfl,true,rfl,fun e => by cases e⟩
  refine t_if (fun e2 => ?_) (fun e2 => ?_)
  ·refine gZ ?_;exact t_ret ⟨rfl,true,rfl,fun e => by cases e⟩
  refine t_if (fun e3 => ?_) (fun e3 => ?_)
  ·refine gZ ?_;exact t_ret ⟨rfl,true,rfl,fun e => by cases e⟩
  exact t_again ⟨rfl,rfl,by omega,by omega,by omega⟩
 rintro vs _ ⟨rfl,rfl,h1,h2,h3⟩;refine gZ ?_;refine t_loop (fun mm vs h' => h = h' /\ ∃ i:Nat,vs = [.bool false,.int .i64 i] /\ i <= f.n5 /\ mm = f.n5 - i) ⟨rfl,0,rfl,Nat.zero_le _,rfl⟩ ?_;rintro Y mm vs _ hY ⟨rfl,i,rfl,hi,rfl⟩;refine gZ ?_;refine t_if (fun e => ?_) (fun e => ?_)
 ·obtain ⟨x,a1,hx,ha1,e1,e2,e3,q,m,c,e4,e5⟩ := hu.papers.at (i := i) (by omega);refine gZ ?_;refine t_if (fun e6 => ?_) (fun e6 => ?_)
  ·refine gZ ?_;exact t_ret ⟨rfl,true,rfl,fun e => by cases e⟩
  ·refine t_again (hY (f.n5 - (i + 1)) _ _ (by omega) ⟨rfl,i + 1,?_,by omega,rfl⟩);rw [wrap_id (by omega) (by omega)]; rfl
 ·refine gZ ?_;refine t_loop (fun mm vs h' => h = h' /\ ∃ i:Nat,vs = [.bool false,.int .i64 i] /\ i <= f.n6 /\ mm = f.n6 - i) ⟨rfl,0,rfl,Nat.zero_le _,rfl⟩ ?_;rintro Y2 mm vs _ hY2 ⟨rfl,i,rfl,hi,rfl⟩;refine gZ ?_;refine t_if (fun e => ?_) (fun e => ?_)
  ·obtain ⟨x,a1,hx,ha1,e1,e2,q,m,c,e4,e5⟩ := hu.requests.at (i := i) (by omega);refine gZ ?_;refine t_if (fun e6 => ?_) (fun e6 => ?_)
   ·refine gZ ?_;exact t_ret ⟨rfl,true,rfl,fun e => by cases e⟩
   ·refine t_again (hY2 (f.n6 - (i + 1)) _ _ (by omega) ⟨rfl,i + 1,?_,by omega,rfl⟩);rw [wrap_id (by omega) (by omega)]; rfl
  ·refine gZ ?_;exact t_ret ⟨rfl,false,rfl,fun _ => ⟨h1,h2,h3⟩⟩
end
section
open Go Go.TM Go.Proofs
theorem lack_grow:Grow LackE := fun _ _ _ _ hl h => ⟨hl _ _ h.1,hl _ _ h.2.1,hl _ _ h.2.2.1,hl _ _ h.2.2.2⟩
theorem ev1:window exU 20 = ⟨16,20⟩ := by decide +kernel
theorem ev2:window exU 25 = ⟨18,25⟩ := by decide +kernel
theorem ev3:safe exU 0 1 16 = 1 := by decide +kernel
theorem ev4:safe exU 0 1 18 = 0 := by decide +kernel
theorem ev5:safe exU 0 1 19 = 2 := by decide +kernel
theorem ev6:weak exU 0 1 = 17 := by decide +kernel
theorem ev7:weak exU 1 2 = 15 := by decide +kernel
theorem ev8:leftAll exU 0 25 = [1,2,0] := by decide +kernel
theorem ev9:lacks exU 0 20 = [⟨1,0,⟨16,20⟩⟩,⟨2,0,⟨16,20⟩⟩] := by decide +kernel
theorem ev10:enoughB exU 0 25 [0,2] (leftAll exU 0 25) = false := by decide +kernel
theorem ev11:∀ i,i < 16 -> okF exU 0 25 i = true -> (∀ j,j < 16 -> okF exU 0 25 j = true -> fewerF (subsetL 4 i) (subsetL 4 j) <= 0) -> subsetL 4 i = [1] := by decide +kernel
theorem ev12:okF exU 0 25 2 = true := by decide +kernel
theorem exWindow20:windowR exU 20 = .tuple #[.agg #[.int .i64 16,.int .i64 20],.int .i64 0] := by rw [windowR,if_neg (by decide +kernel),ev1]
theorem exWindow25:windowR exU 25 = .tuple #[.agg #[.int .i64 18,.int .i64 25],.int .i64 0] := by rw [windowR,if_neg (by decide +kernel),ev2]
theorem exSafe16:safeR exU 0 1 16 = .tuple #[.int .i64 1,.int .i64 0] := by rw [safeR,if_neg (by decide +kernel),ev3]
theorem exSafe18:safeR exU 0 1 18 = .tuple #[.int .i64 0,.int .i64 0] := by rw [safeR,if_neg (by decide +kernel),ev4]
theorem exSafe19:safeR exU 0 1 19 = .tuple #[.int .i64 2,.int .i64 0] := by rw [safeR,if_neg (by decide +kernel),ev5]
theorem exWeak1:weakR exU 0 1 = .tuple #[.int .i64 17,.int .i64 0] := by rw [weakR,if_neg (by decide +kernel),ev6]
theorem exWeak2:weakR exU 1 2 = .tuple #[.int .i64 15,.int .i64 0] := by rw [weakR,if_neg (by decide +kernel),ev7]
theorem exEnough:enoughR exU 0 25 [0,2] = .tuple #[.bool false,.int .i64 0] := by rw [enoughR,if_neg (by decide +kernel),ev10]
theorem exOpen25:openF exU [landQ exU 0,dayQ 25] = 0 := by decide +kernel
theorem exOpen20:openF exU [landQ exU 0,dayQ 20] = 0 := by decide +kernel
attribute [local irreducible] T.wp CV FWK
set_option maxRecDepth 100000 in
theorem c16 {h:LH} (hch:h.chans = []) (hpe:h.pend = []) (hp:Parts h.get):FW XT Tryz.prog 8 #[] h fun r h' => r = .bool true /\ Rd h.get h'.get /\ h'.chans = [] /\ h'.pend = [] /\ h'.todo = h.todo := by
 refine w16 XT_ok ?_;unfold n16;refine t_gr c52 ?_;rintro _ h1 le1 ⟨f,rfl,hu⟩;have hp := hp.le le1.1;refine gZ ?_;refine t_gr (c17 hp hu 20) ?_;rintro _ h2 le2 rfl;rw [exWindow20];refine gZ ?_;have hp := hp.le le2.1;have hu := hu.le le2.1;refine t_gr (c17 hp hu 25) ?_;rintro _ h3 le3 rfl;rw [exWindow25];refine gZ ?_;have hp := hp.le le3.1;have hu := hu.le le3.1;refine t_gr (c19 hp hu 0 1 16) ?_;rintro _ h4 le4 rfl;rw [exSafe16];refine gZ ?_;have hp := hp.le le4.1;have hu := hu.le le4.1;refine t_gr (c19 hp hu 0 1 18) ?_;rintro _ h5 le5 rfl;rw [exSafe18];refine gZ ?_;have hp := hp.le le5.1;have hu := hu.le le5.1;refine t_gr (c19 hp hu 0 1 19) ?_;rintro _ h6 le6 rfl;rw [exSafe19];refine gZ ?_;have hp := hp.le le6.1;have hu := hu.le le6.1;refine t_gr (c21 hp hu 0 1) ?_;rintro _ h7 le7 rfl;rw [exWeak1];refine gZ ?_;have hp := hp.le le7.1;have hu := hu.le le7.1;refine t_gr (c21 hp hu 1 2) ?_;rintro _ h8 le8 rfl;rw [exWeak2];refine gZ ?_;have hp := hp.le le8.1;have hu := hu.le le8.1;refine t_gr (c23 hp hu 0 25) ?_;rintro _ h9 le9 (⟨hne,_⟩ | ⟨_,lp,ln,lc,rfl,hl⟩)
 ·exact absurd exOpen25 hne
 rw [ev8] at hl;refine gZ ?_;have hp := hp.le le9.1;have hu := hu.le le9.1;refine t_gr (c28 hp hu 0 20) ?_;rintro _ h10 le10 (⟨hne,_⟩ | ⟨_,kp,kn,kc,rfl,hk⟩)
 ·exact absurd exOpen20 hne
 rw [ev9] at hk;refine gZ ?_;have hp := hp.le le10.1;have hu := hu.le le10.1;have hl := hl.le IntE.grow le10.1;have le := LH.le_trans (LH.le_trans (LH.le_trans (LH.le_trans (LH.le_trans (LH.le_trans (LH.le_trans (LH.le_trans (LH.le_trans le1 le2) le3) le4) le5) le6) le7) le8) le9) le10;refine t_call (c33 (by rw [le.2.1,hch]) (by rw [le.2.2.1,hpe]) hp hu 0 25) ?_;rintro _ h11 ⟨rd11,ch11,pe11,td11,⟨hne,_⟩ | ⟨_,pp,pn,pc,rfl,hb,_⟩⟩
 ·exact absurd exOpen25 hne
 have hpk:Sl IntE 1 h11.get pp pn [1] := by
  rcases hb with ⟨_,_,hno⟩ | ⟨i,a,rfl,hi,hok,hs,hmin⟩
  ·have := hno 2 (by decide) (by simp);rw [ev12] at this; cases this
  ·have e := ev11 i hi hok fun j hj hj2 => hmin j hj (by simp) hj2;rw [<- e]; exact hs
 refine gZ ?_;have hp := hp.rd rd11;have hu := hu.rd rd11;have hl := hl.rd IntE.grow rd11;have hk := hk.rd lack_grow rd11;refine t_buildG und50 inf3 (by decide) (by decide) (cells := #[.int .i64 0,.int .i64 2]) (by kernel_rfl) fun r12 h12 le12 _ e12 => ?_;refine gZ ?_;have hp := hp.le le12.1;have hu := hu.le le12.1;refine t_gr (c31 hp hu 0 25 (pl := [0,2]) (sl_ints (l := [0,2]) rfl e12 (by show (2:Nat) < _; omega))) ?_;rintro _ h13 le13 rfl;rw [exEnough];refine gZ ?_;have le1113 := LH.le_trans le12 le13;have hl := hl.le IntE.grow le1113.1;have hk := hk.le lack_grow le1113.1;have hpk := hpk.le IntE.grow le1113.1;refine t_blk (fun vs h' => vs = [.bool false] /\ h13 = h') ?_ ?_
 ·iterate 11 refine t_cond (fun e => absurd e (by decide)) (fun _ => ?_)
  exact t_again ⟨rfl,rfl⟩
 rintro vs _ ⟨rfl,rfl⟩;refine gZ ?_;refine t_blk (fun vs h' => vs = [.bool false] /\ h13.le h') ?_ ?_
 ·refine t_pu (c42 _ _) ?_;refine gZ ?_;refine t_ne2 two30 g30 ?_;refine gZ ?_;refine t_cond (fun e => absurd e (by decide)) (fun _ => ?_);refine t_pu (c42 _ _) ?_;refine gZ ?_;refine t_ne2 two30 g30 ?_;refine gZ ?_;refine t_cond (fun e => absurd e (by decide)) (fun _ => ?_);refine gZ ?_;refine t_cond (fun e => absurd e (by decide)) (fun _ => ?_);refine gZ ?_;refine t_cond (fun e => absurd e (by decide)) (fun _ => ?_);refine gZ ?_;refine t_cond (fun e => absurd e (by decide)) (fun _ => ?_);refine gZ ?_;refine t_cond (fun e => absurd e (by decide)) (fun _ => ?_);refine gZ ?_;refine t_cond (fun e => absurd e (by decide)) (fun _ => ?_);refine gZ ?_;refine t_cond (fun e => absurd e (by decide)) (fun _ => ?_);refine gZ ?_;refine t_buildG und50 inf3 (by decide) (by decide) (cells := #[.int .i64 1]) (by kernel_rfl) fun r14 h14 le14 _ e14 => ?_;refine gZ ?_;refine t_pu (c35 (hpk.le IntE.grow le14.1) (sl_ints (l := [1]) rfl e14 (by show (1:Nat) < _; omega))) ?_;refine gZ ?_;refine t_cond (fun e => absurd e (by decide)) (fun _ => ?_);exact t_again ⟨rfl,le14⟩
 rintro vs h15 ⟨rfl,le15⟩;have hl := hl.le IntE.grow le15.1;have hk := hk.le lack_grow le15.1;refine gZ ?_;refine t_buildG und40 inf34 (by decide) (by decide) (cells := #[.int .i64 1,.int .i64 2,.int .i64 0]) (by kernel_rfl) fun r16 h16 le16 _ e16 => ?_;refine gZ ?_;refine t_pu (c25 (hl.le IntE.grow le16.1) (sl_ints (l := [1,2,0]) rfl e16 (by show (3:Nat) < _; omega))) ?_;refine gZ ?_;refine t_cond (fun _ => ?_) (fun e => absurd e (by decide));refine gZ ?_;refine t_pu (c42 _ _) ?_;refine gZ ?_;refine t_pu (c42 _ _) ?_;refine gZ ?_;refine t_buildG und45 inf79 (by decide) (by decide) (cells := #[.int .i64 1,.int .i64 0,.int .i64 16,.int .i64 20,.int .i64 2,.int .i64 0,.int .i64 16,.int .i64 20]) (by kernel_rfl) fun r17 h17 le17 _ e17 => ?_;refine gZ ?_;have le1617 := LH.le_trans le16 le17;refine t_pu (c30 (hk.le lack_grow le1617.1) (b := [⟨1,0,⟨16,20⟩⟩,⟨2,0,⟨16,20⟩⟩]) ?_) ?_
 ·refine ⟨rfl,by show (2:Nat) < _; omega,?_⟩;have cr:∀ {i j:Nat} {v:Value},(#[.int .i64 1,.int .i64 0,.int .i64 16,.int .i64 20,.int .i64 2,.int .i64 0,.int .i64 16,.int .i64 20]:Array Value)[i + j]? = some v -> h17.get.cell? (Addr.add (Addr.add ⟨r17,0,none⟩ i) j) = some v := by
   intro i j v hv;rw [add_plain,add_plain,Nat.zero_add]; exact cell_row e17 hv
  intro i x hx
  match i,hx with
  | 0,hx => cases hx; exact ⟨_,rfl,cr rfl,cr rfl,cr rfl,cr rfl⟩
  | 1,hx => cases hx; exact ⟨_,rfl,cr rfl,cr rfl,cr rfl,cr rfl⟩
  | i + 2,hx => simp at hx
 refine gZ ?_;have leZ := LH.le_trans (LH.le_trans le1113 le15) le1617;refine t_ret ⟨by simp,(Rd.of_le le.1).trans (rd11.trans (Rd.of_le leZ.1)),by rw [leZ.2.1,ch11],by rw [leZ.2.2.1,pe11],by rw [leZ.2.2.2,td11,le.2.2.2]⟩
end
section
open Go Go.TM Go.Proofs
attribute [local irreducible] T.wp CV FWK
theorem LeftR.form {h':Cells} {u:UseFile} {land day:Int} {r:Value} (hr:LeftR h' u land day r):∃ p n c,r = .tuple #[.slice p n c,.int .i64 (openF u [landQ u land,dayQ day])] /\ Sl IntE 1 h' p n (if openF u [landQ u land,dayQ day] = 0 then leftAll u land day else []) := by
 rcases hr with ⟨h1,rfl⟩ | ⟨h1,p,n,c,rfl,s⟩
 ·exact ⟨none,0,0,rfl,by rw [if_neg h1]; exact Sl.nil⟩
 ·exact ⟨p,n,c,by rw [h1],by rw [if_pos h1]; exact s⟩
def Fin (h:LH):Value -> LH -> Prop := fun r h' => r = .bool true /\ h'.chans = [] /\ h'.pend = [] /\ h'.todo = h.todo
theorem fin_shown {h h':LH} (hch:h.chans = []) (hpe:h.pend = []) (hp:Parts h.get) (hle:h.le h'):FW XT Tryz.prog 8 #[] h' (Fin h) := by
 refine FW.mono (c16 (by rw [hle.2.1,hch]) (by rw [hle.2.2.1,hpe]) (hp.le hle.1)) ?_;rintro v h'' ⟨h1,_,h2,h3,h4⟩;exact ⟨h1,h2,h3,by rw [h4,hle.2.2.2]⟩
end
end Go.Proofs.YtfkfohpnpljihaaGreatDoor
section
namespace Go.TM
open Go
def cum (c:Int -> Bool):Nat -> Int
 | 0 => 0
 | n + 1 => cum c n + (if c ((n + 1:Nat):Int) then 1 else 0)
theorem firstDay_spec (c:Int -> Bool) (idle:Int):∀ (d:Nat) (n:Int),n < idle -> ∃ w:Nat,firstDay c idle d n = w /\ w <= d /\ n + cum c d - cum c w < idle /\ (1 <= w -> n + cum c d - cum c (w - 1) >= idle) := by
 intro d
 induction d with
 | zero => intro n hn; exact ⟨0,rfl,Nat.le_refl _,by omega,fun h => by omega⟩
 | succ d ih =>
  intro n hn;have hc:(if c ((d + 1:Nat):Int) then n + 1 else n) + cum c d = n + cum c (d + 1) := by
   rw [cum]; split <;> omega
  rw [firstDay];by_cases e:(if c ((d + 1:Nat):Int) then n + 1 else n) >= idle
  ·rw [if_pos e];refine ⟨d + 1,rfl,Nat.le_refl _,by omega,fun _ => ?_⟩;rw [Nat.add_sub_cancel]; omega
  ·rw [if_neg e];obtain ⟨w,h1,h2,h3,h4⟩ := ih _ (by omega:(if c ((d + 1:Nat):Int) then n + 1 else n) < idle);exact ⟨w,h1,by omega,by omega,fun h => by have := h4 h; omega⟩
def cnt (u:UseFile) (a d:Int):Int := cum (counts u) d.toNat - cum (counts u) a.toNat
theorem window_bound {u:UseFile} (hi:1 <= u.idle) {day:Int} (hd:0 <= day):0 <= (window u day).first /\ (window u day).first <= day /\ (window u day).last = day /\ cnt u (window u day).first day < u.idle /\ (1 <= (window u day).first -> cnt u ((window u day).first - 1) day >= u.idle) := by
 obtain ⟨w,h1,h2,h3,h4⟩ := firstDay_spec (counts u) u.idle day.toNat 0 (by omega);unfold window cnt;simp only [h1];refine ⟨by omega,by omega,trivial,?_,fun h => ?_⟩
 ·rw [show ((w:Nat):Int).toNat = w by omega]; omega
 ·have := h4 (by omega);rw [show (((w:Nat):Int) - 1).toNat = w - 1 by omega]; omega
end Go.TM
end
namespace Go.Proofs.YtfkfohpnpljihaaGreatDoor
section
open Go Go.TM Go.Proofs
attribute [local irreducible] T.wp CV FWK
theorem c36 {h:LH} {f:FileC} {u:UseFile} (hu:FileR h.get f u):FW X0 Tryz.prog 6 #[fileV f u] h fun r h' => h = h' /\ ∃ b:Bool,r = .bool b /\ (b = true -> checkF u = 0) := by
 refine w36 _ _ _ _ _ _ _ _ _ _ _ _ _ X0_ok ?_;unfold n36;refine t_call (c15 hu) ?_;rintro _ _ ⟨rfl,b,rfl,hb⟩;refine gZ ?_;refine t_cond (fun _ => ?_) (fun _ => ?_)
 ·refine t_pu (c27 hu) ?_;refine gZ ?_;exact t_ret ⟨rfl,_,rfl,fun e => by simpa using e⟩
 ·exact t_ret ⟨rfl,_,rfl,fun e => by cases e⟩
theorem wrap_u16 {n:Int} (h:0 <= n /\ n <= 65535):IntKind.i64.wrap n = n := wrap_id (by omega) (by omega)
theorem wrap_u8 {n:Int} (h:0 <= n /\ n <= 255):IntKind.i64.wrap n = n := wrap_id (by omega) (by omega)
theorem tmod_nn {a b:Int} (ha:0 <= a):Int.tmod a b = a % b := by rw [Int.tmod_eq_emod_of_nonneg ha]
theorem mod_day {n:Int}:0 <= n % 2001 /\ n % 2001 <= 2000 := by omega
theorem c37 {h:LH} {n:Int} (hn:0 <= n /\ n <= 65535):Pu Tryz.prog 9 #[.int .u16 n] h (.int .i64 (n % 2001)) := by
 refine w37 _ X0_ok ?_;unfold n37;refine gT (by omega) ?_;rw [wrap_u16 hn,tmod_nn hn.1];exact t_ret ⟨rfl,rfl⟩
end
section
open Go Go.TM Go.Proofs
attribute [local irreducible] T.wp CV FWK
theorem openF_all {u:UseFile} (hck:checkF u = 0):∀ {l:List Int},(∀ x ∈ l,x = 0) -> openF u l = 0 := by
 intro l hl;rw [openF,if_neg (by simp [hck])];have key:∀ (l:List Int) (i:Nat),(∀ x ∈ l,x = 0) -> firstF (fun _ x => x) i l = 0 := by
  intro l
  induction l with
  | nil => intro i _; rfl
  | cons y l ih =>
   intro i h;rw [firstF,if_neg (by simp [h y (by simp)])];exact ih _ fun x hx => h x (by simp [hx])
 exact key l 0 hl
theorem landQ_ok {u:UseFile} {k:Int} (h:0 <= k /\ k < u.lands):landQ u k = 0 := by
 unfold landQ isIn;rw [if_pos]; simp; omega
theorem dayQ_ok {d:Int} (h:0 <= d /\ d <= 2000):dayQ d = 0 := by
 unfold dayQ isDay isIn;rw [if_pos]; simp; omega
theorem leftQ_ok {u:UseFile} (hck:checkF u = 0) {k d:Int} (hk:0 <= k /\ k < u.lands) (hd:0 <= d /\ d <= 2000):openF u [landQ u k,dayQ d] = 0 :=
 openF_all hck (by intro x hx; simp at hx; rcases hx with rfl | rfl; exact landQ_ok hk; exact dayQ_ok hd)
theorem mod_pos {n b:Int} (hb:0 < b):0 <= n % b /\ n % b < b := ⟨Int.emod_nonneg _ (by omega),Int.emod_lt_of_pos _ hb⟩
end
end Go.Proofs.YtfkfohpnpljihaaGreatDoor
namespace Go.TM
section
open Go
theorem safeGo_one {w:Span}:∀ {l:List Paper} {out:Int},out ≠ 1 -> (safeGo w l out = 1 ↔ ∃ p ∈ l,insideB w p.days = true) := by
 intro l
 induction l with
 | nil => intro out h; simp [safeGo,h]
 | cons p l ih =>
  intro out h;rw [safeGo];by_cases e:insideB w p.days = true
  ·rw [if_pos e]; simp [e]
  ·rw [if_neg e,ih (by split <;> omega)];simp [e]
theorem safeGo_two {w:Span}:∀ {l:List Paper} {out:Int},(safeGo w l out = 2 -> out = 2 /\ ∀ p ∈ l,meetsB w p.days = false /\ insideB w p.days = false) := by
 intro l
 induction l with
 | nil => intro out h; exact ⟨h,fun p hp => by simp at hp⟩
 | cons p l ih =>
  intro out h;rw [safeGo] at h;by_cases e:insideB w p.days = true
  ·rw [if_pos e] at h; omega
  ·rw [if_neg e] at h;obtain ⟨h1,h2⟩ := ih h;by_cases e2:meetsB w p.days = true
   ·rw [if_pos e2] at h1; omega
   ·rw [if_neg e2] at h1;refine ⟨h1,fun q hq => ?_⟩;rcases List.mem_cons.1 hq with rfl | hq
    ·exact ⟨by simpa using e2,by simpa using e⟩
    ·exact h2 q hq
theorem safeGo_two' {w:Span}:∀ {l:List Paper},(∀ p ∈ l,meetsB w p.days = false /\ insideB w p.days = false) -> safeGo w l 2 = 2 := by
 intro l
 induction l with
 | nil => intro _; rfl
 | cons p l ih =>
  intro h;have := h p (by simp);rw [safeGo,if_neg (by rw [this.2]; simp),if_neg (by rw [this.1]; simp)];exact ih fun q hq => h q (by simp [hq])
theorem safeGo_vals {w:Span}:∀ {l:List Paper} {out:Int},(out = 0 \/ out = 1 \/ out = 2) -> (safeGo w l out = 0 \/ safeGo w l out = 1 \/ safeGo w l out = 2) := by
 intro l
 induction l with
 | nil => intro out h; exact h
 | cons p l ih =>
  intro out h;rw [safeGo];split
  ·omega
  ·apply ih; split <;> omega
theorem safe_vals (u:UseFile) (k i d:Int):safe u k i d = 0 \/ safe u k i d = 1 \/ safe u k i d = 2 := by
 unfold safe;split
 ·omega
 ·exact safeGo_vals (.inr (.inr rfl))
def InW (u:UseFile) (day d:Int):Prop := (window u day).first <= d /\ d <= day
theorem inside_def (w x:Span):insideB w x = true ↔ w.first <= x.first /\ x.last <= w.last := by
 unfold insideB mx mn;rw [decide_eq_true_eq];constructor
 ·rintro ⟨h1,h2⟩; split at h1 <;> split at h2 <;> omega
 ·rintro ⟨h1,h2⟩; constructor
  ·split <;> omega
  ·split <;> omega
theorem meets_def {w x:Span} (hw:w.first <= w.last) (hx:x.first <= x.last):meetsB w x = true ↔ x.first <= w.last /\ w.first <= x.last := by
 unfold meetsB mx mn;rw [decide_eq_true_eq];split <;> split <;> omega
def Choice:List Paper -> List Int -> Prop
 | [],[] => True
 | p :: ps,d :: ds => (p.days.first <= d /\ d <= p.days.last) /\ Choice ps ds
 | _,_ => False
theorem meetsGo_bit (u:UseFile) (day:Int):∀ (l:List Request) (k acc j:Nat),(meetsGo u day l k acc).testBit j = (acc.testBit j || (decide (k <= j) && (l[j - k]?).any fun r => isIn day (window u r.day).first r.day)) := by
 intro l
 induction l with
 | nil => intro k acc j; simp [meetsGo]
 | cons r l ih =>
  intro k acc j;rw [meetsGo,ih];by_cases e:j = k
  ·subst e;simp only [Nat.sub_self,List.getElem?_cons_zero,Option.any_some,Nat.le_refl,decide_true,Bool.true_and];rw [show decide (j + 1 <= j) = false by simp];split <;> rename_i hh <;> simp [hh,Nat.testBit_or,Nat.testBit_two_pow_self]
  ·have hacc:(if isIn day (window u r.day).first r.day then acc ||| 2 ^ k else acc).testBit j = acc.testBit j := by
    split
    ·rw [Nat.testBit_or,Nat.testBit_two_pow]; simp [Ne.symm e]
    ·rfl
   rw [hacc];by_cases e2:k <= j
   ·have h1:k + 1 <= j := by omega
    rw [show j - k = (j - (k + 1)) + 1 by omega,List.getElem?_cons_succ];simp [e2,h1]
   ·have h1:¬ k + 1 <= j := by omega
    simp [e2,h1]
theorem meets_bit (u:UseFile) (l:List Request) (day:Int) (j:Nat):(meets u l day).testBit j = (l[j]?).any fun r => isIn day (window u r.day).first r.day := by
 unfold meets;rw [meetsGo_bit]; simp
def orAll (u:UseFile) (L:List Request):List Int -> Nat -> Nat
 | [],s => s
 | d :: ds,s => orAll u L ds (s ||| meets u L d)
theorem orAll_bit {u:UseFile} {L:List Request} (j:Nat):∀ {ds:List Int} {s:Nat},(orAll u L ds s).testBit j = (s.testBit j || ds.any fun d => (meets u L d).testBit j) := by
 intro ds
 induction ds with
 | nil => intro s; simp [orAll]
 | cons d ds ih => intro s; rw [orAll,ih,Nat.testBit_or,List.any_cons,Bool.or_assoc]
theorem daysOf_mem {x:Span} {d:Int}:d ∈ daysOf x ↔ x.first <= d /\ d <= x.last := by
 unfold daysOf;rw [List.mem_map];constructor
 ·rintro ⟨i,h1,rfl⟩;rw [List.mem_range] at h1; omega
 ·rintro ⟨h1,h2⟩;exact ⟨(d - x.first).toNat,by rw [List.mem_range]; omega,by omega⟩
theorem mem_step {ms R:List Nat} {s:Nat}:s ∈ stepL ms R ↔ ∃ a ∈ R,∃ b ∈ ms,s = a ||| b := by
 unfold stepL;simp only [List.mem_flatMap,List.mem_map];constructor
 ·rintro ⟨a,h1,b,h2,h3⟩; exact ⟨a,h1,b,h2,h3.symm⟩
 ·rintro ⟨a,h1,b,h2,h3⟩; exact ⟨a,h1,b,h2,h3.symm⟩
theorem reach_iff {u:UseFile} {L:List Request}:∀ {ps:List Paper} {R:List Nat} {s:Nat},s ∈ reachL u L ps R ↔ ∃ a ∈ R,∃ ds,Choice ps ds /\ s = orAll u L ds a := by
 intro ps
 induction ps with
 | nil =>
  intro R s;rw [reachL];constructor
  ·intro h; exact ⟨s,h,[],trivial,rfl⟩
  ·rintro ⟨a,h,ds,hc,rfl⟩;cases ds with
   | nil => exact h
   | cons d ds => exact hc.elim
 | cons p ps ih =>
  intro R s;rw [reachL,ih];constructor
  ·rintro ⟨a,h,ds,hc,rfl⟩;obtain ⟨b,hb,m,hm,rfl⟩ := mem_step.1 h;obtain ⟨d,hd,rfl⟩ := List.mem_map.1 hm;exact ⟨b,hb,d :: ds,⟨daysOf_mem.1 hd,hc⟩,rfl⟩
  ·rintro ⟨a,h,ds,hc,rfl⟩;cases ds with
   | nil => exact hc.elim
   | cons d ds =>
    obtain ⟨h1,h2⟩ := hc;exact ⟨_,mem_step.2 ⟨a,h,_,List.mem_map.2 ⟨d,daysOf_mem.2 h1,rfl⟩,rfl⟩,ds,h2,rfl⟩
theorem orAll_lt {u:UseFile} {L:List Request} {ds:List Int} {s:Nat} (j:Nat) (hs:s.testBit j = false) (hj:L.length <= j):(orAll u L ds s).testBit j = false := by
 rw [orAll_bit,hs,Bool.false_or,List.any_eq_false];intro d _;rw [meets_bit,List.getElem?_eq_none hj]; simp
theorem can_iff {u:UseFile} {land item:Int} {L:List Request}:can u land item L = true ↔ ∃ ds,Choice (shown u land item) ds /\ ∀ r ∈ L,InW u r.day u.from_ \/ ∃ d ∈ ds,InW u r.day d := by
 have key:∀ ds,orAll u L ds (meets u L u.from_) = 2 ^ L.length - 1 ↔ ∀ r ∈ L,InW u r.day u.from_ \/ ∃ d ∈ ds,InW u r.day d := by
  intro ds;constructor
  ·intro h r hr;obtain ⟨j,hj⟩ := List.mem_iff_getElem?.1 hr;have hjl := (List.getElem?_eq_some_iff.1 hj).1;have hb:(orAll u L ds (meets u L u.from_)).testBit j = true := by rw [h,Nat.testBit_two_pow_sub_one]; simp [hjl]
   rw [orAll_bit,Bool.or_eq_true,meets_bit,hj,List.any_eq_true] at hb;rcases hb with hb | ⟨d,hd,hb⟩
   ·simp [isIn] at hb; exact .inl hb
   ·rw [meets_bit,hj] at hb;simp [isIn] at hb;exact .inr ⟨d,hd,hb⟩
  ·intro h;apply Nat.eq_of_testBit_eq;intro j;rw [Nat.testBit_two_pow_sub_one];by_cases hj:j < L.length
   ·have hr:L[j]? = some L[j] := List.getElem?_eq_getElem hj;rw [orAll_bit,meets_bit,hr];simp only [Option.any_some,hj,decide_true];rcases h L[j] (List.getElem_mem _) with ⟨h1,h2⟩ | ⟨d,hd,h1,h2⟩
    ·rw [show isIn u.from_ (window u L[j].day).first L[j].day = true by simp [isIn]; exact ⟨h1,h2⟩]; rfl
    ·rw [Bool.or_eq_true]; right;rw [List.any_eq_true];refine ⟨d,hd,?_⟩;rw [meets_bit,hr];simp [isIn]; exact ⟨h1,h2⟩
   ·rw [orAll_lt j (by rw [meets_bit,List.getElem?_eq_none (by omega)]; rfl) (by omega)];simp [hj]
 unfold can;rw [List.contains_iff_mem,reach_iff];constructor
 ·rintro ⟨a,ha,ds,hc,hs⟩;rw [List.mem_singleton] at ha;subst ha;exact ⟨ds,hc,(key ds).1 hs.symm⟩
 ·rintro ⟨ds,hc,h⟩;exact ⟨_,List.mem_singleton.2 rfl,ds,hc,((key ds).2 h).symm⟩
end
section
open Go
theorem Choice.snoc:∀ {ps:List Paper} {ds:List Int},Choice ps ds -> ∀ {p:Paper} {d:Int},p.days.first <= d -> d <= p.days.last -> Choice (ps ++ [p]) (ds ++ [d])
 | [],[],_,_,_,h1,h2 => ⟨⟨h1,h2⟩,trivial⟩
 | _ :: _,_ :: _,h,_,_,h1,h2 => ⟨h.1,Choice.snoc h.2 h1 h2⟩
 | [],_ :: _,h,_,_,_,_ => h.elim
 | _ :: _,[],h,_,_,_,_ => h.elim
theorem left_vals (u:UseFile) (k i d:Int):left u k i d = 0 \/ left u k i d = 1 \/ left u k i d = 2 := by
 unfold left;split
 ·omega
 ·split <;> omega
end
section
open Go
def rk (s:Int):Int := if s = 2 then 0 else if s = 1 then 2 else 1
theorem rk_vals (s:Int):0 <= rk s /\ rk s <= 2 := by unfold rk; split <;> (try split) <;> omega
theorem safe_one_iff {u:UseFile} {k i d:Int} (hd:0 <= d) (hi:1 <= u.idle):safe u k i d = 1 ↔ InW u d u.from_ \/ ∃ p ∈ shown u k i,(window u d).first <= p.days.first /\ p.days.last <= d := by
 unfold safe;by_cases e:isIn u.from_ (window u d).first d = true
 ·rw [if_pos e];simp only [true_iff];exact .inl (by simpa [isIn,InW] using e)
 ·rw [if_neg e,safeGo_one (by omega)];have h1:¬ InW u d u.from_ := fun h => e (by simp [isIn]; exact h);constructor
  ·rintro ⟨p,hp,hin⟩; exact .inr ⟨p,hp,(inside_def _ _).1 hin⟩
  ·rintro (h | ⟨p,hp,hin⟩)
   ·exact absurd h h1
   ·exact ⟨p,hp,(inside_def _ _).2 hin⟩
theorem safe_two_iff {u:UseFile} {k i d:Int} (hd:0 <= d) (hi:1 <= u.idle) (hv:∀ p ∈ shown u k i,p.days.first <= p.days.last):safe u k i d = 2 ↔ ¬ InW u d u.from_ /\ ∀ p ∈ shown u k i,¬ (p.days.first <= d /\ (window u d).first <= p.days.last) := by
 have hwb := window_bound hi (u := u) hd;have hwl:(window u d).last = d := rfl;unfold safe;by_cases e:isIn u.from_ (window u d).first d = true
 ·rw [if_pos e];have:InW u d u.from_ := by simpa [isIn,InW] using e
  constructor
  ·intro h; omega
  ·intro h; exact absurd this h.1
 ·rw [if_neg e];have h1:¬ InW u d u.from_ := fun h => e (by simp [isIn]; exact h);constructor
  ·intro h;obtain ⟨_,h2⟩ := safeGo_two h;refine ⟨h1,fun p hp hm => ?_⟩;have := (h2 p hp).1;rw [(meets_def (by omega) (hv p hp)).2 ⟨by omega,hm.2⟩] at this; cases this
  ·rintro ⟨_,h2⟩;refine safeGo_two' fun p hp => ?_;have hno := h2 p hp;have hvp := hv p hp;constructor
   ·cases hm:meetsB (window u d) p.days with
    | false => rfl
    | true => exact absurd ((meets_def (by omega) hvp).1 hm) (by omega)
   ·cases hm:insideB (window u d) p.days with
    | false => rfl
    | true => have := (inside_def _ _).1 hm; exact absurd ⟨by omega,by omega⟩ hno
def Valid (u:UseFile):Prop := 1 <= u.idle /\ (∀ p ∈ u.papers,p.days.first <= p.days.last) /\ ∀ r ∈ u.requests,0 <= r.day /\ r.day <= 2000
theorem Valid.of {u:UseFile} (h:checkF u = 0):Valid u := ⟨(num_ok (check_num h)).2.2.2.1,fun p hp => ((check_papers h).2 p hp).2.1,(check_requests h).2⟩
theorem Valid.sh {u:UseFile} (v:Valid u) {k i:Int}:∀ p ∈ shown u k i,p.days.first <= p.days.last := fun p hp => v.2.1 p (List.mem_filter.1 hp).1
structure More (u o:UseFile) (k i:Int):Prop where
 frm:o.from_ = u.from_
 win:∀ d,0 <= d -> (window o d).first <= (window u d).first
 sub:∀ p ∈ shown u k i,p ∈ shown o k i
 ch:∀ ds,Choice (shown u k i) ds -> ∃ ds',Choice (shown o k i) ds' /\ ∀ d ∈ ds,d ∈ ds'
theorem More.inW {u o:UseFile} {k i:Int} (m:More u o k i) {d x:Int} (hd:0 <= d) (h:InW u d x):InW o d x := by
 have := m.win d hd;unfold InW at *; omega
theorem More.safe {u o:UseFile} {k i:Int} (m:More u o k i) (vu:Valid u) (vo:Valid o) {d:Int} (hd:0 <= d):rk (safe u k i d) <= rk (safe o k i d) := by
 have ho := safe_vals o k i d;have key1:TM.safe u k i d = 1 -> TM.safe o k i d = 1 := by
  rw [safe_one_iff hd vu.1,safe_one_iff hd vo.1];rintro (h | ⟨p,hp,h1,h2⟩)
  ·exact .inl (by rw [m.frm]; exact m.inW hd h)
  ·have := m.win d hd;exact .inr ⟨p,m.sub p hp,by omega,h2⟩
 have key2:TM.safe o k i d = 2 -> TM.safe u k i d = 2 := by
  rw [safe_two_iff hd vu.1 vu.sh,safe_two_iff hd vo.1 vo.sh];rintro ⟨h1,h2⟩;refine ⟨fun h => h1 (by rw [m.frm]; exact m.inW hd h),fun p hp hm => h2 p (m.sub p hp) ?_⟩;have := m.win d hd;omega
 rcases safe_vals u k i d with e | e | e
 ·rcases ho with e' | e' | e'
  ·rw [e,e']; exact Int.le_refl _
  ·rw [e,e']; decide
  ·rw [key2 e'] at e; omega
 ·rw [e,key1 e]; exact Int.le_refl _
 ·rw [e]; have := rk_vals (TM.safe o k i d); simp [rk]; exact this.1
theorem left_one_iff {u:UseFile} {k i d:Int}:left u k i d = 1 ↔ ∀ r ∈ against u k i d,safe u k i r.day = 1 := by
 unfold left;by_cases e:((against u k i d).all fun r => decide (safe u k i r.day = 1)) = true
 ·rw [if_pos e];simp only [true_iff];intro r hr; simpa using List.all_eq_true.1 e r hr
 ·rw [if_neg e];constructor
  ·intro h; split at h <;> omega
  ·intro h;exact absurd (List.all_eq_true.2 fun r hr => by simpa using h r hr) e
theorem left_two_iff {u:UseFile} {k i d:Int}:left u k i d = 2 ↔ left u k i d ≠ 1 /\ can u k i (against u k i d) = false := by
 unfold left;by_cases e:((against u k i d).all fun r => decide (safe u k i r.day = 1)) = true
 ·rw [if_pos e]; simp
 ·rw [if_neg e];cases hc:can u k i (against u k i d) <;> simp
theorem rk_le {a b:Int} (ha:a = 0 \/ a = 1 \/ a = 2) (hb:b = 0 \/ b = 1 \/ b = 2) (h1:a = 1 -> b = 1) (h2:b = 2 -> a = 2):rk a <= rk b := by
 unfold rk;rcases ha with rfl | rfl | rfl <;> rcases hb with rfl | rfl | rfl <;> simp at h1 h2 ⊢
theorem can_of_safe {u:UseFile} (vu:Valid u) {k i:Int} {L:List Request} (hL:∀ r ∈ L,0 <= r.day) (h:∀ r ∈ L,safe u k i r.day = 1):can u k i L = true := by
 rw [can_iff];have hch:∀ ps:List Paper,(∀ p ∈ ps,p.days.first <= p.days.last) -> Choice ps (ps.map fun p => p.days.first) := by
  intro ps
  induction ps with
  | nil => intro _; trivial
  | cons p ps ih => intro h; exact ⟨⟨Int.le_refl _,h p (by simp)⟩,ih fun q hq => h q (by simp [hq])⟩
 refine ⟨_,hch _ vu.sh,fun r hr => ?_⟩;rcases (safe_one_iff (hL r hr) vu.1).1 (h r hr) with h1 | ⟨p,hp,h1,h2⟩
 ·exact .inl h1
 ·have := vu.sh p hp;exact .inr ⟨_,List.mem_map.2 ⟨p,hp,rfl⟩,h1,by omega⟩
theorem More.left {u o:UseFile} {k i:Int} (m:More u o k i) (vu:Valid u) (vo:Valid o) (hr:o.requests = u.requests) (d:Int):rk (left u k i d) <= rk (left o k i d) := by
 have hag:against o k i d = against u k i d := by unfold against; rw [hr]
 have hmem:∀ r ∈ against u k i d,0 <= r.day /\ r.day <= 2000 := fun r h => vu.2.2 r (List.mem_filter.1 h).1;refine rk_le (left_vals _ _ _ _) (left_vals _ _ _ _) ?_ ?_
 ·rw [left_one_iff,left_one_iff,hag];intro h r hr';have := m.safe vu vo (hmem r hr').1;rw [h r hr'] at this;rcases safe_vals o k i r.day with e | e | e
  ·rw [e] at this; exact absurd this (by decide)
  ·exact e
  ·rw [e] at this; exact absurd this (by decide)
 ·intro h;obtain ⟨h1,h2⟩ := left_two_iff.1 h;rw [hag] at h2;have hnc:can u k i (against u k i d) = false := by
   cases hc:can u k i (against u k i d) with
   | false => rfl
   | true =>
    obtain ⟨ds,c1,c2⟩ := can_iff.1 hc;obtain ⟨ds',c3,c4⟩ := m.ch ds c1;rw [can_iff.2 ⟨ds',c3,fun r hr' => ?_⟩] at h2
    ·cases h2
    rcases c2 r hr' with hh | ⟨x,hx,hh⟩
    ·exact .inl (by rw [m.frm]; exact m.inW (hmem r hr').1 hh)
    ·exact .inr ⟨x,c4 x hx,m.inW (hmem r hr').1 hh⟩
  refine left_two_iff.2 ⟨fun h3 => ?_,hnc⟩;rw [can_of_safe vu (fun r hr' => (hmem r hr').1) (left_one_iff.1 h3)] at hnc; cases hnc
theorem more_paper {u:UseFile} {p:Paper} (hp:p.days.first <= p.days.last) (k i:Int):More u { u with papers := u.papers ++ [p] } k i := by
 have hsh:shown { u with papers := u.papers ++ [p] } k i = shown u k i ++ (if showsB k i p then [p] else []) := by
  show (u.papers ++ [p]).filter (showsB k i) = _;rw [List.filter_append];congr 1;cases hs:showsB k i p <;> simp [hs]
 refine ⟨rfl,fun d _ => Int.le_refl _,fun q hq => by rw [hsh]; exact List.mem_append_left _ hq,fun ds hds => ?_⟩;rw [hsh];by_cases hs:showsB k i p = true
 ·rw [if_pos hs];exact ⟨ds ++ [p.days.first],hds.snoc (Int.le_refl _) hp,fun d hd => List.mem_append_left _ hd⟩
 ·rw [if_neg hs,List.append_nil];exact ⟨ds,hds,fun d hd => hd⟩
end
end Go.TM
section
namespace Go.Proofs.YtfkfohpnpljihaaGreatDoor
open Go Go.TM Go.Proofs
attribute [local irreducible] T.wp CV FWK
def PaperB (h0:Cells) (h:Cells) (a:Addr) (x:Paper):Prop := ∃ q m c,(∀ (j:Nat) w,[Value.int .i64 x.days.first,.int .i64 x.days.last,.int .i64 x.land,.slice q m c][j]? = some w -> h.cell? (a.add j) = some w) /\ Sl IntE 1 h0 q m x.items
theorem paperTold {h0 h:Cells}:ToldE (PaperB h0) (PaperEnc h0) 4 h := by
 rintro a x ⟨q,m,c,h1,h2⟩;exact ⟨_,⟨q,m,c,rfl,h2⟩,rfl,h1,fun w hw => by simp at hw; rcases hw with rfl | rfl | rfl | rfl <;> rfl⟩
theorem PaperB.of {h0 h:Cells} (hr:Rd h0 h) {p:Option Addr} {n:Nat} {l:List Paper} (s:Sl PaperE 4 h0 p n l):Sl (PaperB h0) 4 h p n l := by
 refine ⟨s.1,s.2.1,fun i x hx => ?_⟩;obtain ⟨a,ha,h1,h2,h3,q,m,c,h4,h5⟩ := s.2.2 i x hx;refine ⟨a,ha,q,m,c,fun j w hj => ?_,h5⟩
 match j,hj with
 | 0,hj => cases hj; exact hr _ _ h1
 | 1,hj => cases hj; exact hr _ _ h2
 | 2,hj => cases hj; exact hr _ _ h3
 | 3,hj => cases hj; exact hr _ _ h4
 | j + 4,hj => simp at hj
theorem row_stands {h h':Cells} {r:Nat} {cs:Array Value} {el:TypeId} {ws:List Value} (hr:h r = some (true,.cells cs el (0,0))) (hc:∀ (j:Nat) w,ws[j]? = some w -> cs[j]? = some w) (hk:h' r = h r) (j:Nat) (w:Value) (hj:ws[j]? = some w):h'.cell? ((⟨r,0,none⟩ : Addr).add j) = some w := by
 rw [add_plain,Nat.zero_add];unfold Cells.cell?;rw [hk,hr];exact hc j w hj
section
variable {X:XP} {Q:Leaf -> LH -> Prop}
theorem copy_end1 {α:Type} {Enc:α -> List Value -> Prop} {h h₁:LH} {K:Value -> T} {tS el:TypeId} {s by_:Nat} {z:Value} {p:Option Addr} {n c:Nat} {l:List α} {x:α} {ws:List Value} {r:Nat} {cs:Array Value} (hu:Tryz.prog.underlying tS = some (.slice el)) (hi:(Tryz.prog.info? el).map (fun i => (i.size,i.bytes,i.zero)) = some (s,by_,some z)) (hsz:z.cells.size = s) (hb:by_ <= 1024) (hn:n + 1 <= 2 ^ 30)
  (g:Growing Enc el s h.get h₁.get p n c l) (hle:h.le h₁) (he:Enc x ws) (hl:ws.length = s) (one:∀ v ∈ ws,isOne v = true) (hr:h₁.get r = some (true,.cells cs el (0,0))) (hc:∀ (j:Nat) w,ws[j]? = some w -> cs[j]? = some w)
  (hk:∀ p' c' h',h.le h' -> Growing Enc el s h.get h'.get p' (n + 1) c' (l ++ [x]) -> (K (.slice p' (n + 1) c')).wp X Tryz.prog Q h'):(T.sem false (Builtin.append_ #[tS,tS] tS #[.slice p n c,.slice (some ⟨r,0,none⟩) 1 1]) K).wp X Tryz.prog Q h₁ :=
 t_grow (h₀ := h) (x := x) (ws := ws) rfl rfl hu hu hi hsz hb hn g hle he hl (fun j v hj => row_stands hr hc rfl j v hj) one fun p' c' h' a _ b => hk p' c' h' a b
end
def PaperEnd (h:LH) (f:FileC) (u:UseFile) (y:Paper) (vs:List Value) (h':LH):Prop := ∃ p n c,vs = [.int .i64 u.items,.int .i64 u.lands,.int .i64 u.from_,.int .i64 u.idle,.slice f.p4 f.n4 f.c4,.slice p n c,.slice f.p6 f.n6 f.c6] /\ h.le h' /\ FileR h'.get { f with p5 := p,n5 := n,c5 := c } { u with papers := u.papers ++ [y] }
theorem paperEnd_of {h h':LH} {f:FileC} {u:UseFile} {y:Paper} (hu:FileR h.get f u) (h8:u.papers.length <= 8) {p:Option Addr} {n c:Nat} (hle:h.le h') (g:Growing (PaperEnc h.get) 32 4 h.get h'.get p n c (u.papers ++ [y])):PaperEnd h f u y [.int .i64 u.items,.int .i64 u.lands,.int .i64 u.from_,.int .i64 u.idle,.slice f.p4 f.n4 f.c4,.slice p n c,.slice f.p6 f.n6 f.c6] h' :=
 ⟨p,n,c,rfl,hle,(hu.le hle.1).excuses,g.sl PaperEnc.len (by omega) (PaperEnc.e (Rd.of_le hle.1)) (by simp; omega),(hu.le hle.1).requests⟩
end Go.Proofs.YtfkfohpnpljihaaGreatDoor
end
