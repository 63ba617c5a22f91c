import PyProof.Rows.All
import Wide.All
import OpenK.AllK
import Wide.FinOn
import HandS.Exc
import HandS.ExcIs
import HandS.ExcField
import HandS.IsInst
import HandS.ForMost
import KE.KTryMore
import KE.KExcIs
import KE.KStateDown
import HandS.Ends
import HandS.Head0
import HandS.Head1
import HandS.Head2
import HandS.HeadEnd
import HandS.EndBits
import HandS.Codes
import HandS.HeadHook1
import HandS.HeadHook2
import KE.KDictKeyed
import KE.KDictWalk
import HandS.ForExc
import HandS.TupAny
import HandS.NoneIn
import HandS.Deep
import HandS.Comp
import HandS.Wide
import HandS.WideBits
import HandS.Walk
import HandS.Strs
import HandS.CallSlots
import HandS.ExcOwn
import PyProof.ExcBaseAll.ValueError
import HandS.Defaults
import HandS.WordsExc
import HandS.SetFor
import HandS.SortInts
import HandS.Rev
import HandS.Zip
import HandS.Style
import HandS.RaiseMore
import KE.KDictDisplayH
import HandS.Dict
import HandS.ExcInit
import HandS.Text
import HandS.TupSets
import PyProof.ListMulAny
import KE.SortData
import KE.KDictSum
import HandS.Sort
import KE.KDictPairs
import KE.KDictCopyH
import PyProof.AutoSeq1
import HandS.MakeKw
import PyProof.WalkInts
import PyProof.WalksMore
import PyProof.ListNew
import KE.KEqDict
import HandS.Conv
import HandS.Iter
import PyProof.ReprRoads
import PyProof.StrLaws
import PySem.Challenge.RW_delve_k61_depths_and_counts_of_plans
set_option Elab.async false
set_option linter.all false
set_option maxRecDepth 100000
set_option maxHeartbeats 4000000
set_option autoImplicit false
namespace DV
open PySem PySem.Spec PyProof.Rows L2
def XO (k : Value) (d : Option Addr) (a : Addr) : HO := .ext fun h => ∃ (ob : Obj) (fs : Array Value), h.get? a = some ob ∧ Zc k d ob ∧ ob.data = .fields fs
theorem xo_ok {P : Program} {w : World} {H : Hp} {h : Heap} {a : Addr} {k : Value} {d : Option Addr} {ob : Obj} {fs : Array Value} (e : h.get? a = some ob) (z : Zc k d ob) (q : ob.data = .fields fs) : ObjOk P w H h a (XO k d a) :=
  ⟨⟨ob, fs, e, z, q⟩, ⟨ob, e⟩, fun _ _ ⟨o2, f2, e2, r2⟩ st => ⟨o2, f2, st o2 e2, r2⟩⟩
theorem track {X : Cx} {pins : List (Addr × Obj)} {σ : L2.St} {H : Hp} {s : Shared} {a : Addr} {φ : Heap → Prop} (I : Inv X pins σ H s) (n0 : X.s_0.heap.get? a = none) (na : H a = none) (nL : X.env.locals ≠ a) (nc : ∀ x c, X.env.cells.lookup x = some c → c ≠ a)
    (np : ∀ p ∈ X.pn ++ pins, p.1 ≠ a) (new : ObjOk X.prog X.w (upd H a (.ext φ)) s.heap a (.ext φ)) : Inv X pins σ (upd H a (.ext φ)) s := by
  have ne0 : ∀ {b : Addr} {o : Obj}, X.s_0.heap.get? b = some o → b ≠ a := fun {b o} e z => by rw [z, n0] at e; cases e
  have neH : ∀ {b : Addr} {o : HO}, H b = some o → b ≠ a := fun {b o} e z => by rw [z, na] at e; cases e
  refine ⟨I.ok, I.os, I.bare, ⟨I.base.keep, I.base.slot, fun b o e n q => ?_, I.base.there, fun b xs e => ?_, fun b o u e => ?_, fun b ps e => ?_⟩, I.loc, I.cell, ?_, fun x c e => ?_, fun p hp => ?_, fun b u e => ?_, I.len⟩
  · rw [upd_ne (ne0 e)]
    exact I.base.free b o e n q
  · have z := I.base.tups b xs e
    rw [upd_ne (neH z)]
    exact z
  · have z := I.base.frzs b o u e
    rw [upd_ne (neH z)]
    exact z
  · obtain ⟨m, z⟩ := I.base.tbls b ps e
    exact ⟨m, by rw [upd_ne (neH z)]; exact z⟩
  · rw [upd_ne nL]
    exact I.free
  · rw [upd_ne (nc x c e)]
    exact I.freeC x c e
  · obtain ⟨z1, z2, z3⟩ := I.pin p hp
    exact ⟨z1, by rw [upd_ne (np p hp)]; exact z2, z3⟩
  · by_cases hb : b = a
    · subst hb
      rw [upd_same] at e
      cases e
      exact new
    · rw [upd_ne hb] at e
      exact (I.hok b u e).stay (fun _ _ _ q => q) (fun c q => by rw [upd_ne (neH q)]; exact q) fun c xs q => by rw [upd_ne (neH q)]; exact q
inductive NamesAll (X : Cx) : List Expr → List Value → Prop
  | nil : NamesAll X [] []
  | cons {x : Str} {np : Pos} {C : Addr} {es : List Expr} {cs : List Value} (g : Gl X x) (m : X.mg x = some (.ref C)) (d : (x == ("__debug__" : Str)) = false) (r : NamesAll X es cs) : NamesAll X (.Name x np :: es) (.ref C :: cs)
inductive TestOk (X : Cx) : Expr → List Value → Prop
  | one {x : Str} {np : Pos} {C : Addr} (g : Gl X x) (m : X.mg x = some (.ref C)) (d : (x == ("__debug__" : Str)) = false) : TestOk X (.Name x np) [.ref C]
  | many {es : List Expr} {k : Nat} {pos : Pos} {cs : List Value} (h : NamesAll X es cs) (l : cs.length ≤ 100) : TestOk X (.Tuple es k pos) cs
def MatchV (c : Value) (cs : List Value) (h : Heap) : Prop := cs = [c] ∨ ∃ tp, c = .ref tp ∧ h.get? tp = some { cls := .type "tuple", data := .seq cs.toArray }
section
variable {X : Cx} {E : Value → Shared → Prop} {pins : List (Addr × Obj)} {σ : L2.St} {H : Hp} {s : Shared}
theorem names_run (I : Inv X pins σ H s) : ∀ {es : List Expr} {cs : List Value}, NamesAll X es cs → ∀ (pos : Pos) {Q : List Value → Shared → Prop}, Q cs s → wpAny (model X.prog X.w) X.A (spliced (backTo pos (starEach es X.env))) Q E s := by
  intro es cs h
  induction h with
  | nil =>
    intro pos Q q
    exact Calls.spliced_nil q
  | @cons x np C es cs g m d r ih =>
    intro pos Q q
    show wpAny _ _ (spliced ((false, eval (.Name x np) X.env) :: backTo pos (starEach es X.env))) _ _ s
    exact Calls.spliced_cons (ld_glob I g m (ih pos q) d)
theorem test_run (I : Inv X pins σ H s) {tx : Expr} {cs : List Value} (t : TestOk X tx cs) {Q : Value → Shared → Prop} (hQ : ∀ c h', (∀ b o, s.heap.get? b = some o → h'.get? b = some o) → MatchV c cs h' → Q c { s with heap := h' }) :
    wpAny (model X.prog X.w) X.A (eval tx X.env) Q E s := by
  cases t with
  | one g m d => exact ld_glob I g m (hQ _ s.heap (fun _ _ e => e) (.inl rfl)) d
  | @many es k pos cs h l =>
    refine wpAny_Tuple_spliced (names_run I h pos ⟨Nat.le_trans l (by decide), ?_⟩)
    exact hQ _ _ (fun b o e => Heap.get?_push_of_some _ e) (.inr ⟨_, rfl, Heap.get?_push_size _ rfl⟩)
end
section
variable {M : Model} {K : PySem.W.Frag} {h : Heap} {k : Value}
theorem row_all {A : Around} {E : Value → Shared → Prop} {s : Shared} {f : Value → PUnit → Sem (ForInStep PUnit)} : ∀ {cs : List Value} {Q : PUnit → Shared → Prop}, (∀ c ∈ cs, PySem.W.Looks M s.heap (f c ⟨⟩) (.yield ⟨⟩)) → Q ⟨⟩ s → wpAny M A (forIn cs PUnit.unit f) Q E s
  | [], Q, _, q => by
    rw [List.forIn_nil]
    exact wpAny_pure q
  | c :: cs, Q, hc, q => by
    rw [List.forIn_cons]
    exact wpAny_bind ((hc c List.mem_cons_self).here (row_all (fun d hd => hc d (List.mem_cons_of_mem _ hd)) q))
theorem row_any {A : Around} {E : Value → Shared → Prop} {s : Shared} {f : Value → (Option Bool × Unit) → Sem (ForInStep (Option Bool × Unit))} (p : Value → Bool) : ∀ {cs : List Value} {Q : (Option Bool × Unit) → Shared → Prop}, (∀ c ∈ cs, PySem.W.Looks M s.heap (f c (none, ())) (if p c = true then .done (some true, ()) else .yield (none, ()))) →
    Q (if cs.any p = true then (some true, ()) else (none, ())) s → wpAny M A (forIn cs (none, ()) f) Q E s
  | [], Q, _, q => by
    rw [List.forIn_nil]
    exact wpAny_pure q
  | c :: cs, Q, hc, q => by
    rw [List.forIn_cons]
    refine wpAny_bind ((hc c List.mem_cons_self).here ?_)
    by_cases h : p c = true
    · rw [if_pos h]
      rw [List.any_cons, h, Bool.true_or, if_pos rfl] at q
      exact wpAny_pure q
    · rw [if_neg h]
      have h' : p c = false := by simpa using h
      rw [List.any_cons, h', Bool.false_or] at q
      exact row_any p (fun d hd => hc d (List.mem_cons_of_mem _ hd)) q
theorem exm_rows {cls : Value} : ∀ {cs : List Value} {b : Bool}, PySem.W.exmAny K cls cs = some b → ∃ p : Value → Bool, (∀ c ∈ cs, PySem.W.exmOne K cls c = some (p c)) ∧ cs.any p = b
  | [], b, h => by
    cases h
    exact ⟨fun _ => false, by simp, rfl⟩
  | c :: cs, b, h => by
    obtain ⟨b1, d1, h1, h2, rfl⟩ := PySem.W.exmAny_cons h
    obtain ⟨p, hp, e⟩ := exm_rows h2
    refine ⟨fun z => (PySem.W.exmOne K cls z).getD false, fun z hz => ?_, ?_⟩
    · rcases List.mem_cons.mp hz with rfl | hz
      · simp only [h1, Option.getD_some]
      · simp only [hp z hz, Option.getD_some]
    · rw [List.any_cons, h1, ← e]
      congr 1
      have key : ∀ l : List Value, (∀ z ∈ l, PySem.W.exmOne K cls z = some (p z)) → l.any (fun z => (PySem.W.exmOne K cls z).getD false) = l.any p := by
        intro l
        induction l with
        | nil => intro _; rfl
        | cons z l ih =>
          intro hl
          rw [List.any_cons, List.any_cons, hl z List.mem_cons_self, ih fun y hy => hl y (List.mem_cons_of_mem _ hy)]
          rfl
      exact key cs hp
theorem exm_any {cs : List Value} {c : Value} {e : Addr} {b : Bool} (X : K.In h) (LT : PySem.W.Looks M h (typeOf (.ref e)) k) (hc : MatchV c cs h) (hx : PySem.W.exmAny K k cs = some b) : PySem.W.Looks M h (excMatches (.ref e) c) b := by
  obtain ⟨p, hp, rfl⟩ := exm_rows hx
  rcases hc with rfl | ⟨tp, rfl, ht⟩
  · have e1 := hp c List.mem_cons_self
    have e2 : [c].any p = p c := by rw [List.any_cons, List.any_nil, Bool.or_false]
    rw [e2]
    exact PySem.W.exm_one X LT e1
  · intro A Q E s st q
    obtain ⟨hh, g, d, tk, os⟩ := s
    have L0 : PySem.W.Looks M h (isInstance (.ref tp) (.type "tuple")) true := ((PySem.W.Looks.ld ht).andThen .now).andThen (PySem.W.Looks.of_pure isSubtype_tuple_tuple)
    unfold excMatches
    refine wpAny_bind ((L0.keeps st).at ?_)
    dsimp only
    rw [if_pos rfl]
    refine wpAny_bind ?_
    refine wpAny_seqItems (st _ _ ht) rfl ?_
    dsimp only [Option.getD_some, Option.getD]
    refine wpAny_bind (wpAny_pure ?_)
    refine wpAny_bind (row_all (fun c hc => ?_) ?_)
    · have e1 := (PySem.W.exm_cls (M := M) X (hp c hc)).1
      refine (e1.keeps st).andThen ?_
      exact PySem.W.Looks.of_pure (by rw [if_neg (by decide)])
    · refine wpAny_bind ((LT.keeps st).at ?_)
      refine wpAny_bind (row_any p (fun c hc => ?_) ?_)
      · have e1 := (PySem.W.exm_cls (M := M) X (hp c hc)).2
        refine (e1.keeps st).andThen ?_
        cases p c <;> exact PySem.W.Looks.now
      · cases hb : cs.any p with
        | true =>
          rw [hb] at q
          exact wpAny_pure q
        | false =>
          rw [hb] at q
          exact wpAny_pure q
end
abbrev HX := List Value × Option Nat × (Addr → Value → Option Addr → TS)
def endOf (D : Ends) (i : Nat) : Ends := { nx := fun σ' H' => D.nx (σ'.set i none) H', rt := D.rt, bk := fun σ' H' => D.bk (σ'.set i none) H', ct := fun σ' H' => D.ct (σ'.set i none) H' }
def suiteW (D : Ends) : Option Nat → (Addr → Value → Option Addr → TS) → Addr → WX
  | none, ts, a => fun k d σ H => ts a k d D σ (upd H a (XO k d a))
  | some i, ts, a => fun k d σ H => ts a k d (endOf D i) (σ.set i (some (.ref a))) (upd H a (XO k d a))
def wX (K : PySem.W.Frag) (Wout : WX) (D : Ends) : List HX → WX
  | [] => Wout
  | (cs, nm, ts) :: r => fun k d σ H => ∃ b, PySem.W.exmAny K k cs = some b ∧ (b = true → ∀ a, H a = none → suiteW D nm ts a k d σ H) ∧ (b = false → wX K Wout D r k d σ H)
def NmOk (X : Cx) : Option Str → Option Nat → Prop
  | none, none => True
  | some n, some i => X.N[i]? = some n ∧ X.env.kindOf n = some .local
  | _, _ => False
inductive HxOk (X : Cx) : List ExceptHandler → List HX → Prop
  | nil : HxOk X [] []
  | cons {tx : Expr} {cs : List Value} {n : Option Str} {i : Option Nat} {ts : Addr → Value → Option Addr → TS} {b₀ : Stmt} {suite : List Stmt} {pos' : Pos} {hds : List ExceptHandler} {l : List HX} (t : ∀ a pn, TestOk (X.suite a pn) tx cs) (m : NmOk X n i)
      (su : ∀ (a : Addr) (k : Value) (d : Option Addr) (pn : List (Addr × Obj)), PSs (X.suite a pn) (b₀ :: suite) (ts a k d)) (r : HxOk X hds l) : HxOk X (.ExceptHandler (some tx) n (b₀ :: suite) pos' :: hds) ((cs, i, ts) :: l)
theorem fly_more {B : Heap} {l : List Env} {a : Addr} {Z : Obj → Prop} {h h' : Heap} (f : HandSPX.FlyingZ B l a Z h) (st : ∀ b o, h.get? b = some o → h'.get? b = some o) : HandSPX.FlyingZ B l a Z h' := by
  obtain ⟨f1, f2, f3, ob, fs, T, oT, ts, g1, g2, g3, g4, g5, g6, g7, g8, g9⟩ := f
  exact ⟨fun b o e => st b o (f1 b o e), f2, f3.of_keeps fun b o e _ => ⟨o, st b _ e, rfl⟩, ob, fs, T, oT, ts, st _ _ g1, g2, g3, g4, g5, g6, st _ _ g7, g8, g9⟩
theorem upTo_more {h h' h'' : Heap} (u : h.UpToSlots h') (st : ∀ b o, h'.get? b = some o → h''.get? b = some o) : h.UpToSlots h'' := fun b o e q => by
  obtain ⟨sl, z⟩ := u b o e q
  exact ⟨sl, st _ _ z⟩
section
variable {X : Cx} {body : List Stmt} {h₀ : ExceptHandler} {hds : List ExceptHandler} {l : List HX} {pos : Pos} {tb : WX → TS} {Wout : WX}
/-- the suite's frame back to ours -/
theorem back_suite {a : Addr} {pins : List (Addr × Obj)} {pn' : List (Addr × Obj)} {σ : L2.St} {H : Hp} {s : Shared} (I : Inv (X.suite a (X.pn ++ pins)) pn' σ H s) (ok : X.Ok) : Inv X pins σ H s :=
  ⟨ok, I.os, I.bare, I.base, I.loc, I.cell, I.free, I.freeC, fun p q => I.pin p (List.mem_append_left _ q), I.hok, I.len⟩
theorem to_suite {a : Addr} {pins : List (Addr × Obj)} {σ : L2.St} {H : Hp} {s : Shared} (I : Inv X pins σ H s) : Inv (X.suite a (X.pn ++ pins)) [] σ H s :=
  ⟨I.ok.suite _ _, I.os, I.bare, I.base, I.loc, I.cell, I.free, I.freeC, fun p q => I.pin p (by rw [List.append_nil] at q; exact q), I.hok, I.len⟩
theorem ps_try_x (k1 : X.stack = X.env :: X.outer) (k2 : X.env.frame = some X.env.locals) (hx0 : X.ex = []) (hN : X.N.Nodup) (tk : Takes X Wout)
    (hb : ∀ (W : WX) (pn : List (Addr × Obj)) (xe : Value → Shared → Prop), Takes (X.tr pn xe) W → PassesOwn (model X.prog X.w) X.A X.env xe → PSs (X.tr pn xe) body (tb W))
    (hh : HxOk X (h₀ :: hds) l) : PS X (.Try body (h₀ :: hds) [] [] pos) (fun D σ H => tb (wX X.K Wout D l) D σ H) := by
  refine ⟨fun pins s σ H D I h => wpAny_Try_except ?_⟩
  have ok := I.ok
  have fr : X.A.frames = some (X.env :: X.outer) := by rw [← k1]; exact ok.frames
  refine wpAny_mono ((hb (wX X.K Wout D l) (X.pn ++ pins) (fun e z1 => wpAny (model X.prog X.w) X.A (noteFrame e X.env) (fun _ z2 => wpAny (model X.prog X.w) X.A (setFlight e none) (fun _ z3 =>
    wpAny (model X.prog X.w) X.A (handleBy e X.env (h₀ :: hds)) (SP X pins D) X.xe z3) X.xe z2) X.xe z1) (fun u z hz => ?_) PassesOwn.looking).run [] s σ H D (I.toTry _) h) (fun f z hz => ?_) (fun e z hz => hz)
  · obtain ⟨a, B, sI, pins', σ1, H1, k, d, rfl, J0, nb, up, sky, na, os, ag, w⟩ := hz
    have J : Inv X pins σ1 H1 sI := J0.ofTry ok
    have sky' : Sky B (X.env :: X.outer) a (Zc k d) X.env.locals z.heap := by rw [← k1]; exact sky
    show wpAny (model X.prog X.w) X.A (noteFrame (.ref a) X.env) _ _ _
    refine Sky.land Zc.steady fr k2 sky' fun g1 f1 u1 => ?_
    -- what stands apart from the exception
    have there : ∀ {g : Heap}, HandSPX.FlyingZ B (X.env :: X.outer) a (Zc k d) g → ∃ ob fs, g.get? a = some ob ∧ Zc k d ob ∧ ob.data = .fields fs := fun {g} f => f.there
    have nfr : a ∉ frs (X.env :: X.outer) := fun hm => by
      obtain ⟨ob, fs, e1, _, e2⟩ := there f1
      obtain ⟨_, o2, e3, e4⟩ := f1.2.2.1.mem hm
      rw [e1] at e3
      cases e3
      exact e4 _ e2
    have nI : sI.heap.get? a = none := by
      cases e : sI.heap.get? a with
      | none => rfl
      | some o =>
        have q := nb a o e (by rw [k1]; exact nfr)
        rw [f1.2.1] at q
        cases q
    have n0 : X.s_0.heap.get? a = none := by
      cases e : X.s_0.heap.get? a with
      | none => rfl
      | some o =>
        by_cases hx : a ∈ X.ex
        · exact absurd hx (by rw [hx0]; simp)
        · obtain ⟨o', q⟩ := J.base.there a o e hx
          rw [nI] at q
          cases q
    have neI : ∀ {b : Addr} {o : Obj}, sI.heap.get? b = some o → b ≠ a := fun {b o} e q => by rw [q, nI] at e; cases e
    have nL : X.env.locals ≠ a := by
      obtain ⟨m, ⟨o, es, ep, e, _⟩, _⟩ := J.loc
      exact neI e
    have nc : ∀ x c, X.env.cells.lookup x = some c → c ≠ a := fun x c e => by
      obtain ⟨v, o, q, _⟩ := J.cell x c e
      exact neI q
    have np : ∀ p ∈ X.pn ++ pins, p.1 ≠ a := fun p hp => neI (J.pin p hp).1
    -- clause by clause
    have go : ∀ {hs : List ExceptHandler} {ls : List HX}, HxOk X hs ls → ∀ (g : Heap), HandSPX.FlyingZ B (X.env :: X.outer) a (Zc k d) g → sI.heap.UpToSlots g → wX X.K Wout D ls k d σ1 H1 →
        wpAny (model X.prog X.w) X.A (handleBy (.ref a) X.env hs) (SP X pins D) X.xe { z with heap := g } := by
      intro hs ls hk
      induction hk with
      | nil =>
        intro g fg ug w
        refine wpAny_handleBy_nil ?_
        obtain ⟨q1, q2, q3, ob, fs, T, oT, ts, e1, e2, e3, e4, e5⟩ := id fg
        unfold PySem.passOn
        refine wpAny_bind (wpAny_field e1 e3 e4 ?_)
        rw [if_neg (by simp)]
        have fin : wpAny (model X.prog X.w) X.A (setFlight (.ref a) X.env.frame) (fun _ z4 => wpAny (model X.prog X.w) X.A (throw (.ref a) : Sem Flow) (SP X pins D) X.xe z4) X.xe { z with heap := g } := by
          rw [k2]
          refine HandSPX.setFlight_upZ fg fun g' hg' ug' => wpAny_throw (tk _ _ ?_)
          exact ⟨a, B, sI, pins, σ1, H1, k, d, rfl, J, nb, ug.trans ug', .inr (.inr (by rw [k1]; exact hg')), na, os, ag, w⟩
        first
          | exact wpAny_bind (wpAny_pure (wpAny_bind fin))
          | exact wpAny_bind fin
      | @cons tx cs n i ts b₀ suite pos' hs2 ls2 t m su r ih =>
        intro g fg ug w
        obtain ⟨b, hb1, hyes, hno⟩ := w
        obtain ⟨ob, fs, e1, e2, e3⟩ := there fg
        have Jg : Inv X pins σ1 H1 { z with heap := g } := J.landed nb fg.1 ug os ag
        refine wpAny_handleBy_cons (codeAny_handlers_test ?_) (by intro q; cases q)
        refine test_run (X := X.suite a (X.pn ++ pins)) (to_suite Jg) (t a _) fun c g2 st2 hc => ?_
        have LT : PySem.W.Looks (model X.prog X.w) g2 (typeOf (.ref a)) k := fun A Q E s st q => wpAny_typeOf_ref (st _ _ (st2 _ _ e1)) (by rw [e2.1]; exact q)
        have J2 : Inv X pins σ1 H1 { z with heap := g2 } := J.landed nb (fly_more fg st2).1 (upTo_more ug st2) os ag
        refine (exm_any (M := model X.prog X.w) J2.kIn LT hc hb1).here ?_
        cases b with
        | false => exact ih g2 (fly_more fg st2) (upTo_more ug st2) (hno rfl)
        | true =>
          have land : ∀ {g3 : Heap}, HandSPX.FlyingZ B (X.env :: X.outer) a (Zc k d) g3 → g2.UpToSlots g3 → Inv (X.suite a (X.pn ++ pins)) [] σ1 (upd H1 a (XO k d a)) { z with heap := g3 } := fun {g3} f3 u3 => by
            obtain ⟨ob3, fs3, e31, e32, e33⟩ := there f3
            have J3 : Inv X pins σ1 H1 { z with heap := g3 } := J.landed nb f3.1 ((upTo_more ug st2).trans u3) os ag
            exact to_suite (track J3 n0 na nL nc np (xo_ok e31 e32 e33))
          have y := hyes rfl a na
          cases n with
          | none =>
            cases i with
            | some i => exact m.elim
            | none =>
              refine codeAny_handlers_suite ?_
              refine HandSPX.lands_againZ (fly_more fg st2) fun g3 f3 u3 => ?_
              refine wpAny_mono ((su a k d (X.pn ++ pins)).run [] _ _ _ _ (land f3 u3) y) (fun f z6 h6 => ?_) (fun _ _ q => False.elim q)
              cases f with
              | next =>
                obtain ⟨σ6, H6, S6, q6⟩ := h6
                exact ⟨_, _, back_suite S6 ok, q6⟩
              | brk =>
                obtain ⟨σ6, H6, S6, q6⟩ := h6
                exact ⟨_, _, back_suite S6 ok, q6⟩
              | cont =>
                obtain ⟨σ6, H6, S6, q6⟩ := h6
                exact ⟨_, _, back_suite S6 ok, q6⟩
              | ret u =>
                obtain ⟨v6, σ6, H6, S6, r6, q6⟩ := h6
                exact ⟨_, _, _, back_suite S6 ok, r6, q6⟩
          | some n =>
            cases i with
            | none => exact m.elim
            | some i =>
              obtain ⟨hi, hln⟩ := m
              refine codeAny_handlers_suite_as ?_
              refine HandSPX.lands_againZ (fly_more fg st2) fun g3 f3 u3 => ?_
              refine store_ok (X := X.suite a (X.pn ++ pins)) (v := .ref a) (land f3 u3) hN hi (.inl hln) rfl (fun z5 S5 => ?_) (.inr hln)
              refine wpAny_mono ((su a k d (X.pn ++ pins)).run [] z5 _ _ _ S5 y) (fun f z6 h6 => ?_) (fun _ _ q => False.elim q)
              cases f with
              | next =>
                obtain ⟨σ6, H6, S6, q6⟩ := h6
                exact gone_ok (back_suite S6 ok) hN hi hln fun z7 J7 => ⟨_, _, J7, q6⟩
              | brk =>
                obtain ⟨σ6, H6, S6, q6⟩ := h6
                exact gone_ok (back_suite S6 ok) hN hi hln fun z7 J7 => ⟨_, _, J7, q6⟩
              | cont =>
                obtain ⟨σ6, H6, S6, q6⟩ := h6
                exact gone_ok (back_suite S6 ok) hN hi hln fun z7 J7 => ⟨_, _, J7, q6⟩
              | ret u =>
                obtain ⟨v6, σ6, H6, S6, r6, q6⟩ := h6
                exact gone_ok (back_suite S6 ok) hN hi hln fun z7 J7 => ⟨_, _, _, J7, r6, q6⟩
    exact go hh g1 f1 (up.trans u1) w
  · cases f with
    | next =>
      obtain ⟨σ', H', J, q⟩ := hz
      exact wpAny_execs_nil ⟨σ', H', J.ofTry ok, q⟩
    | brk =>
      obtain ⟨σ', H', J, q⟩ := hz
      exact ⟨σ', H', J.ofTry ok, q⟩
    | cont =>
      obtain ⟨σ', H', J, q⟩ := hz
      exact ⟨σ', H', J.ofTry ok, q⟩
    | ret u =>
      obtain ⟨v, σ', H', J, r, q⟩ := hz
      exact ⟨v, σ', H', J.ofTry ok, r, q⟩
end
def xcB (K : PySem.W.Frag) (C : Addr) : Bool := (PySem.W.clsIn K C).isSome && (decide (PySem.W.findIn K (.ref C) "__getattribute__" = some (some (.builtin "BaseException.__getattribute__"))) && (decide (PySem.W.findIn K (.ref C) "__getattr__" = some none) && (decide (PySem.W.subIn K (.ref C) (.type "BaseException") = some true) && (decide (PySem.W.findIn K (.ref C) "__class__" = some (some (.builtin "object.__class__"))) &&
  (decide (PySem.W.specialIn K (.builtin "object.__class__") "__get__" = some (some (.builtin "getset_descriptor.__get__"))) && (decide (PySem.W.takesIn K (.builtin "object.__class__") = some true) && (decide (PySem.W.mroIn K C (.type "object") = some true) && PySem.W.hasDictIn K C)))))))
end DV
namespace DV
open PySem PySem.Spec PyProof.Rows L2
abbrev Tab := Str × List He.Dv
abbrev AlX : Type := Bool × He.AlD
/-- a tuple as such, without fields -/
def bareT (K : PySem.W.Frag) (x : Str) : Bool := match K.lookup (He.ga K x) with
  | some ⟨.type c, none, _, _⟩ => decide (c = "tuple")
  | _ => false
/-- more facts of the top: the classes of exceptions -/
inductive Xf where
  | exo (c : Str)
  | isx (t : Str) (own : Bool) (tb : List (Str × Bool))
  | exm (cs : List Str) (tb : List (Str × Bool))
  | mkp (c : Str)
  | isc (t : Str) (own : Bool) (tb : List (Str × Bool))
  | rxi (c b : Str) (fs : List Str)
  | ali (x f : Str)
def gloB (K : PySem.W.Frag) (x : Str) : Bool := (He.Fa.glo x).ok K
/-- a built-in class of this name -/
def bcls (t : Str) : String := if t = "ValueError" then "ValueError" else "type"
def tgtV (K : PySem.W.Frag) (t : Str) (own : Bool) : Value := if own = true then .ref (He.ga K t) else .type (bcls t)
def inB (K : PySem.W.Frag) (x : Str) : Bool := (He.Fa.cls x).ok K && (decide (PySem.W.findIn K (.ref (He.ga K x)) "__class__" = some (some (.builtin "object.__class__"))) && (decide (PySem.W.specialIn K (.builtin "object.__class__") "__get__" = some (some (.builtin "getset_descriptor.__get__"))) &&
  (decide (PySem.W.takesIn K (.builtin "object.__class__") = some true) && decide (PySem.W.mroIn K (He.ga K x) (.type "object") = some true))))
def vIs (c : Option PySem.W.CFound) (n : String) : Bool := match c with
  | some (.val (.builtin m)) => m == n
  | _ => false
/-- an own exception class, as it is laid -/
def oexB (K : PySem.W.Frag) (C : Addr) : Bool := match K.lookup C with
  | some ⟨.type "type", _, .cls cd, sl⟩ => (match cd.mro, sl.toList with
    | .ref C' :: bm, [_, _, _, _, some (.builtin n), _] => C' == C && (n == "ValueError.__new__" && (!cd.hasDel && (cd.hasDict && PySem.HandSPX.refsVE bm)))
    | _, _ => false)
  | _ => false
def rxiB (K : PySem.W.Frag) (C B f : Addr) (fs : List Str) : Bool := oexB K C && (decide (PySem.W.findIn K (.ref C) "__setattr__" = some (some (.builtin "object.__setattr__"))) && (decide (PySem.W.subIn K (.ref C) (.type "BaseException") = some true) && (decide (PySem.W.typeIn K (.ref C) = some (.type "type")) && (PySem.W.keepIn K (.ref C) &&
  (decide (PySem.W.findIn K (.ref C) "__init__" = some (some (.ref f))) && (decide (PySem.W.typeIn K (.ref f) = some (.type "function")) && ((fs.all fun x => decide (PySem.W.findIn K (.ref C) x = some none)) &&
  (decide (PySem.W.specialIn K (.ref B) "__getattribute__" = some (some (.builtin "type.__getattribute__"))) && (PySem.W.readsIn K B (.type "type") && vIs (PySem.W.findCls K (.ref B) (.type "type") "__init__") "ValueError.__init__")))))))))
def Xf.ok (K : PySem.W.Frag) : Xf → Bool
  | .rxi c b fs => gloB K c && (gloB K b && rxiB K (He.ga K c) (He.ga K b) (He.ma K (He.ga K c) "__init__") fs)
  | .mkp c => gloB K c && (PySem.W.makesIn K (He.ga K c) && (decide (PySem.W.findIn K (.ref (He.ga K c)) "__init__" = some (some (.builtin "object.__init__"))) && PySem.W.keepIn K (.ref (He.ga K c))))
  | .isc t own tb => (if own = true then gloB K t else (He.Fa.free t).ok K) && tb.all fun p => gloB K p.1 && (inB K p.1 && decide (PySem.W.kitOne K (.ref (He.ga K p.1)) (tgtV K t own) = some p.2))
  | .exo c => gloB K c && (He.Fa.exc c).ok K
  | .ali x f => gloB K x && decide (He.ga K x = He.ga K f)
  | .isx t own tb => (if own = true then gloB K t else (He.Fa.free t).ok K) && tb.all fun p => gloB K p.1 && (xcB K (He.ga K p.1) && decide (PySem.W.kitOne K (.ref (He.ga K p.1)) (tgtV K t own) = some p.2))
  | .exm cs tb => (cs.all fun c => gloB K c) && tb.all fun p => gloB K p.1 && decide (PySem.W.exmAny K (.ref (He.ga K p.1)) (cs.map fun c => .ref (He.ga K c)) = some p.2)
def obsX (tl : List Tab) (xf : List Xf) (fa : List He.Fa) (fn : List He.DefD) (K : PySem.W.Frag) : AlX := ((tl.all fun p => (He.Fa.glo p.1).ok K && (He.tupB K p.1 p.2 && bareT K p.1)) && (xf.all fun x => x.ok K), He.obsD fa fn K)
def valX (fn : List He.DefD) : AlX := (true, He.valD fn)
def SaysX (tl : List Tab) (xf : List Xf) (fa : List He.Fa) (fn : List He.DefD) (K : PySem.W.Frag) : Prop := obsX tl xf fa fn K = valX fn
def obsXG (n : Nat) (tl : List Tab) (xf : List Xf) (fa : List He.Fa) (fn : List He.DefD) (g : Addr → Option Obj) : AlX := obsX tl xf fa fn (He.frG g (He.asD g n ++ [PySem.cStatics]))
def hookX (n : Nat) (tl : List Tab) (xf : List Xf) (fa : List He.Fa) (fn : List He.DefD) : PySem.W.Hook where
  α := AlX
  obs := fun s => obsXG n tl xf fa fn s.heap.get?
  val := fun _ => valX fn
  says := fun _ h => ∃ K : PySem.W.Frag, K.In h ∧ SaysX tl xf fa fn K
  of := fun _ _ e => ⟨_, He.frG_in, e⟩
  keeps := fun _ _ _ ⟨K, hK, c⟩ k => ⟨K, PySem.W.Frag.In.keeps hK k, c⟩
theorem obsXG_eq {n : Nat} {tl : List Tab} {xf : List Xf} {fa : List He.Fa} {fn : List He.DefD} {g : Addr → Option Obj} {s : Shared} (h : ∀ a, g a = s.heap.get? a) : obsXG n tl xf fa fn g = (hookX n tl xf fa fn).obs s := by
  have e : g = s.heap.get? := funext h
  rw [e] <;> rfl
end DV
namespace K61
open PySem PySem.Spec PyProof.Rows L2 DV
def top (i : Nat) : Stmt := PySem.Challenge.pw_delve_k61_depths_and_counts_of_plans.main.body.getD i (.Pass ⟨0, 0, 0, 0⟩)
def fa : List He.Fa := [.glo "plan_depth", .glo "many", .glo "_law_cell_at", .glo "_law_next", .glo "_law_plan", .glo "_law_deep", .glo "_law_is", .glo "law", .free "len", .free "max", .free "min", .free "sum", .free "int", .free "list", .free "tuple", .free "sorted", .free "repr", .free "str", .free "any", .free "all", .free "divmod", .free "range", .free "zip", .free "enumerate", .free "reversed", .free "isinstance", .free "set", .free "bool", .free "dict"]
def xf : List Xf := []
def tl : List Tab := [("ALONE", [.str "walk", .str "drop", .str "spare"]), ("GATED", [.str "lock", .str "door", .str "bar"])]
def dd_plan_depth : He.DefD := ⟨("plan_depth", none), "plan_depth", "plan_depth", defArgs (top 3), defBody (top 3), defScope (top 3), [], []⟩
def dd_many : He.DefD := ⟨("many", none), "many", "many", defArgs (top 4), defBody (top 4), defScope (top 4), [], []⟩
def dd__law_cell_at : He.DefD := ⟨("_law_cell_at", none), "_law_cell_at", "_law_cell_at", defArgs (top 6), defBody (top 6), defScope (top 6), [], []⟩
def dd__law_next : He.DefD := ⟨("_law_next", none), "_law_next", "_law_next", defArgs (top 7), defBody (top 7), defScope (top 7), [], []⟩
def dd__law_plan : He.DefD := ⟨("_law_plan", none), "_law_plan", "_law_plan", defArgs (top 8), defBody (top 8), defScope (top 8), [], []⟩
def dd__law_deep : He.DefD := ⟨("_law_deep", none), "_law_deep", "_law_deep", defArgs (top 9), defBody (top 9), defScope (top 9), [], []⟩
def dd__law_is : He.DefD := ⟨("_law_is", none), "_law_is", "_law_is", defArgs (top 10), defBody (top 10), defScope (top 10), [], []⟩
def dd_law : He.DefD := ⟨("law", none), "law", "law", defArgs (top 11), defBody (top 11), defScope (top 11), [], []⟩
def fn : List He.DefD := [dd_plan_depth, dd_many, dd__law_cell_at, dd__law_next, dd__law_plan, dd__law_deep, dd__law_is, dd_law]
end K61
set_option maxHeartbeats 0
namespace K61
open PySem PySem.Spec PyProof.Rows L2 DV
abbrev R : PySem.W.OpenRow := PySem.W.OpenLaw.row PySem.Challenge.rw_delve_k61_depths_and_counts_of_plans
abbrev hk : PySem.W.Hook := hookX 4 tl xf fa fn
def ob (s : PySem.W.SharedT) : AlX := obsXG 4 tl xf fa fn (HandSHeadRun.getT s)
theorem ob_eq (s : PySem.W.SharedT) : ob s = hk.obs s.abs := obsXG_eq (HandSHeadRun.getT_eq s)
def lo0 : List PySem.Str := ["ALONE", "GATED", "plan_depth", "many", "_law_cell_at", "_law_next", "_law_plan", "_law_deep", "_law_is"]
abbrev lo : List PySem.Str := lo0
theorem run (w : World) : HandSHeadRun.RunEq R (PySem.W.view R.prog [11]) hk ob 8000 lo w := by
  intro os
  kernel_rfl
end K61
set_option maxHeartbeats 4000000
namespace DV
open PySem PySem.Spec PyProof.Rows L2
/-- plain data that nobody changes any more -/
inductive D where
  | non | bl (b : Bool) | int (i : Int) | str (s : Str)
  | tup (ds : List D) | lst (ds : List D) | dct (ks xs : List D)
  | ins (c : Str) (ns : List Str) (ds : List D)
  | exc (c : Str) (ns : List Str) (ds : List D)
/-- what a slot holds: plain data, or something of its own that it may change -/
inductive O where
  | p (d : D)
  | lst (ds : List D)
  | dct (ks xs : List D)
  | ol (os : List O)
  | ot (os : List O)
  | od (ks : List D) (os : List O)
  | ob (c : Str) (ns : List Str) (os : List O)
structure Gl where
  K : PySem.W.Frag
  mg : Str → Option Value
  w : World
mutual
/-- data as a key -/
def nkD : D → Option NestedKey
  | .non => some .none
  | .bl b => some (.num (if b = true then 1 else 0))
  | .int i => some (.num i)
  | .str s => some (.text s)
  | .tup ds => match nkDs ds with
    | some ks => some (.tup ks)
    | none => none
  | .lst _ => none
  | .dct _ _ => none
  | .ins _ _ _ => none
  | .exc _ _ _ => none
def nkDs : List D → Option (List NestedKey)
  | [] => some []
  | d :: ds => match nkD d, nkDs ds with
    | some k, some ks => some (k :: ks)
    | _, _ => none
end
/-- the keys' tuples -/
def kRefs (es : List (NestedKey × Addr)) : List V := es.map fun e => .ref e.2
/-- a dict at a: its keys with their tuples, its values -/
def DicO (w : World) (a : Addr) (ep : Nat) (es : List (NestedKey × Addr)) (ws : List V) : HO := .ext fun h => (a == sysModules) = false ∧ es.length ≤ sizeLine ∧ (es.map (·.1)).Nodup ∧ (∀ e ∈ es, e.1.depth ≤ 8) ∧ ∃ us, Vals ws us ∧ es.length = us.length ∧
  ∃ o ar, h.get? a = some o ∧ o.ExactDict ∧ o.data = .dict ar ep ∧ ar.toList = (List.zipWith (fun (e : NestedKey × Addr) (u : Value) => (e.1, e.2, u)) es us).map fun e => ⟨e.1.hash w, .ref e.2.1, e.2.2⟩
/-- an exception's fields -/
def XDict (F : Hp) (ns : List Str) : Option Addr → List V → Prop
  | none, _ => ns = []
  | some dx, vs => F dx = some (.xd (ns.zip vs))
mutual
def RepD (g : Gl) (F : Hp) : D → V → Prop
  | .non, v => v = .non
  | .bl b, v => v = .bl b
  | .int i, v => v = .int i
  | .str s, v => v = .str s
  | .tup ds, v => ∃ a vs, v = .ref a ∧ SqT g.K F a vs ∧ RepDs g F ds vs
  | .lst ds, v => ∃ a vs, v = .ref a ∧ SqL g.K F a vs ∧ RepDs g F ds vs
  | .dct ks xs, v => ∃ a ep es ws, v = .ref a ∧ F a = some (DicO g.w a ep es ws) ∧ nkDs ks = some (es.map (·.1)) ∧ RepDs g F ks (kRefs es) ∧ RepDs g F xs ws
  | .ins c ns ds, v => ∃ a C dx vs, v = .ref a ∧ g.mg c = some (.ref C) ∧ F a = some (.ins C dx (ns.zip vs)) ∧ ns.length = ds.length ∧ RepDs g F ds vs
  | .exc c ns ds, v => ∃ a C d vs, v = .ref a ∧ g.mg c = some (.ref C) ∧ F a = some (XO (.ref C) d a) ∧ XDict F ns d vs ∧ ns.length = ds.length ∧ RepDs g F ds vs
def RepDs (g : Gl) (F : Hp) : List D → List V → Prop
  | [], vs => vs = []
  | d :: ds, vs => ∃ v r, vs = v :: r ∧ RepD g F d v ∧ RepDs g F ds r
end
mutual
def RepO (g : Gl) (F H : Hp) : O → V → List Addr → Prop
  | .p d, v, as => RepD g F d v ∧ as = []
  | .lst ds, v, as => ∃ a vs, v = .ref a ∧ as = [a] ∧ F a = none ∧ H a = some (.lst vs) ∧ RepDs g F ds vs
  | .dct ks xs, v, as => ∃ a ep es ws, v = .ref a ∧ as = [a] ∧ F a = none ∧ H a = some (DicO g.w a ep es ws) ∧ nkDs ks = some (es.map (·.1)) ∧ RepDs g F ks (kRefs es) ∧ RepDs g F xs ws
  | .ol os, v, as => ∃ a vs bs, v = .ref a ∧ as = a :: bs ∧ F a = none ∧ H a = some (.lst vs) ∧ RepOs g F H os vs bs
  | .ot os, v, as => ∃ a vs, v = .ref a ∧ SqT g.K F a vs ∧ RepOs g F H os vs as
  | .od ks os, v, as => ∃ a ep es ws bs, v = .ref a ∧ as = a :: bs ∧ F a = none ∧ H a = some (DicO g.w a ep es ws) ∧ nkDs ks = some (es.map (·.1)) ∧ RepDs g F ks (kRefs es) ∧ RepOs g F H os ws bs
  | .ob c ns os, v, as => ∃ a C dx vs bs, v = .ref a ∧ as = a :: dx :: bs ∧ F a = none ∧ F dx = none ∧ g.mg c = some (.ref C) ∧ H a = some (.ins C dx (ns.zip vs)) ∧ H dx = some (.own a) ∧ ns.length = os.length ∧ RepOs g F H os vs bs
def RepOs (g : Gl) (F H : Hp) : List O → List V → List Addr → Prop
  | [], vs, as => vs = [] ∧ as = []
  | o :: os, vs, as => ∃ v r a1 a2, vs = v :: r ∧ as = a1 ++ a2 ∧ RepO g F H o v a1 ∧ RepOs g F H os r a2
end
def Sub (F H : Hp) : Prop := ∀ a o, F a = some o → H a = some o
theorem Sub.refl (F : Hp) : Sub F F := fun _ _ h => h
theorem Sub.trans {F G H : Hp} (a : Sub F G) (b : Sub G H) : Sub F H := fun c o h => b c o (a c o h)
theorem Sub.rd {F H : Hp} {a : Addr} {u : HO} (s : Sub F H) (h : Rd F a u) : Rd H a u := by
  rcases h with h | ⟨o, h⟩
  · exact .inl (s _ _ h)
  · exact .inr ⟨o, s _ _ h⟩
theorem Sub.sqL {K : PySem.W.Frag} {F H : Hp} {a : Addr} {xs : List V} (s : Sub F H) (h : SqL K F a xs) : SqL K H a xs := by
  rcases h with h | h
  · exact .inl (s.rd h)
  · exact .inr h
theorem Sub.sqT {K : PySem.W.Frag} {F H : Hp} {a : Addr} {xs : List V} (s : Sub F H) (h : SqT K F a xs) : SqT K H a xs := by
  rcases h with h | h
  · exact .inl (s.rd h)
  · exact .inr h
theorem XDict.mono {F F' : Hp} {ns : List Str} {d : Option Addr} {vs : List V} (s : Sub F F') (h : XDict F ns d vs) : XDict F' ns d vs := by
  cases d with
  | none => exact h
  | some dx => exact s _ _ h
mutual
theorem RepD.mono {g : Gl} {F F' : Hp} (s : Sub F F') : ∀ {d : D} {v : V}, RepD g F d v → RepD g F' d v
  | .non, _, h => h
  | .bl _, _, h => h
  | .int _, _, h => h
  | .str _, _, h => h
  | .tup ds, v, h => by
    unfold RepD at h ⊢
    obtain ⟨a, vs, e, q, r⟩ := h
    exact ⟨a, vs, e, s.sqT q, RepDs.mono s r⟩
  | .lst ds, v, h => by
    unfold RepD at h ⊢
    obtain ⟨a, vs, e, q, r⟩ := h
    exact ⟨a, vs, e, s.sqL q, RepDs.mono s r⟩
  | .dct ks xs, v, h => by
    unfold RepD at h ⊢
    obtain ⟨a, ep, es, ws, e, q, nk, rk, r⟩ := h
    exact ⟨a, ep, es, ws, e, s _ _ q, nk, RepDs.mono s rk, RepDs.mono s r⟩
  | .ins c ns ds, v, h => by
    unfold RepD at h ⊢
    obtain ⟨a, C, dx, vs, e, m, q, l, r⟩ := h
    exact ⟨a, C, dx, vs, e, m, s _ _ q, l, RepDs.mono s r⟩
  | .exc c ns ds, v, h => by
    unfold RepD at h ⊢
    obtain ⟨a, C, d, vs, e, m, q, x, l, r⟩ := h
    exact ⟨a, C, d, vs, e, m, s _ _ q, XDict.mono s x, l, RepDs.mono s r⟩
theorem RepDs.mono {g : Gl} {F F' : Hp} (s : Sub F F') : ∀ {ds : List D} {vs : List V}, RepDs g F ds vs → RepDs g F' ds vs
  | [], _, h => h
  | d :: ds, vs, h => by
    unfold RepDs at h ⊢
    obtain ⟨v, r, e, q, t⟩ := h
    exact ⟨v, r, e, RepD.mono s q, RepDs.mono s t⟩
end
mutual
theorem RepO.mono {g : Gl} {F F' H H' : Hp} (s : Sub F F') : ∀ {o : O} {v : V} {as : List Addr}, RepO g F H o v as → (∀ a ∈ as, F' a = none ∧ ∀ u, H a = some u → H' a = some u) → RepO g F' H' o v as
  | .p d, v, as, h, k => by
    unfold RepO at h ⊢
    exact ⟨h.1.mono s, h.2⟩
  | .lst ds, v, as, h, k => by
    unfold RepO at h ⊢
    obtain ⟨a, vs, e1, e2, n, q, r⟩ := h
    have ka := k a (by rw [e2]; exact List.mem_cons_self)
    exact ⟨a, vs, e1, e2, ka.1, ka.2 _ q, r.mono s⟩
  | .dct ks xs, v, as, h, k => by
    unfold RepO at h ⊢
    obtain ⟨a, ep, es, vs, e1, e2, n, q, nk, rk, r⟩ := h
    have ka := k a (by rw [e2]; exact List.mem_cons_self)
    exact ⟨a, ep, es, vs, e1, e2, ka.1, ka.2 _ q, nk, rk.mono s, r.mono s⟩
  | .ol os, v, as, h, k => by
    unfold RepO at h ⊢
    obtain ⟨a, vs, bs, e1, e2, n, q, r⟩ := h
    have ka := k a (by rw [e2]; exact List.mem_cons_self)
    exact ⟨a, vs, bs, e1, e2, ka.1, ka.2 _ q, RepOs.mono s r fun b hb => k b (by rw [e2]; exact List.mem_cons_of_mem _ hb)⟩
  | .ot os, v, as, h, k => by
    unfold RepO at h ⊢
    obtain ⟨a, vs, e1, q, r⟩ := h
    exact ⟨a, vs, e1, s.sqT q, RepOs.mono s r k⟩
  | .od ks os, v, as, h, k => by
    unfold RepO at h ⊢
    obtain ⟨a, ep, es, vs, bs, e1, e2, n, q, nk, rk, r⟩ := h
    have ka := k a (by rw [e2]; exact List.mem_cons_self)
    exact ⟨a, ep, es, vs, bs, e1, e2, ka.1, ka.2 _ q, nk, rk.mono s, RepOs.mono s r fun b hb => k b (by rw [e2]; exact List.mem_cons_of_mem _ hb)⟩
  | .ob c ns os, v, as, h, k => by
    unfold RepO at h ⊢
    obtain ⟨a, C, dx, vs, bs, e1, e2, n1, n2, m, q, qd, l, r⟩ := h
    have ka := k a (by rw [e2]; exact List.mem_cons_self)
    have kd := k dx (by rw [e2]; exact List.mem_cons_of_mem _ List.mem_cons_self)
    exact ⟨a, C, dx, vs, bs, e1, e2, ka.1, kd.1, m, ka.2 _ q, kd.2 _ qd, l, RepOs.mono s r fun b hb => k b (by rw [e2]; exact List.mem_cons_of_mem _ (List.mem_cons_of_mem _ hb))⟩
theorem RepOs.mono {g : Gl} {F F' H H' : Hp} (s : Sub F F') : ∀ {os : List O} {vs : List V} {as : List Addr}, RepOs g F H os vs as → (∀ a ∈ as, F' a = none ∧ ∀ u, H a = some u → H' a = some u) → RepOs g F' H' os vs as
  | [], _, _, h, _ => h
  | o :: os, vs, as, h, k => by
    unfold RepOs at h ⊢
    obtain ⟨v, r, a1, a2, e1, e2, q, t⟩ := h
    exact ⟨v, r, a1, a2, e1, e2, RepO.mono s q fun b hb => k b (by rw [e2]; exact List.mem_append_left _ hb), RepOs.mono s t fun b hb => k b (by rw [e2]; exact List.mem_append_right _ hb)⟩
end
mutual
theorem RepO.own {g : Gl} {F H : Hp} : ∀ {o : O} {v : V} {as : List Addr}, RepO g F H o v as → ∀ a ∈ as, F a = none ∧ ∃ u, H a = some u
  | .p d, v, as, h, a, ha => by
    unfold RepO at h
    rw [h.2] at ha
    exact absurd ha (by simp)
  | .lst ds, v, as, h, a, ha => by
    unfold RepO at h
    obtain ⟨b, vs, e1, e2, n, q, r⟩ := h
    rw [e2] at ha
    have e : a = b := by simpa using ha
    subst e
    exact ⟨n, _, q⟩
  | .dct ks xs, v, as, h, a, ha => by
    unfold RepO at h
    obtain ⟨b, ep, es, vs, e1, e2, n, q, nk, rk, r⟩ := h
    rw [e2] at ha
    have e : a = b := by simpa using ha
    subst e
    exact ⟨n, _, q⟩
  | .ol os, v, as, h, a, ha => by
    unfold RepO at h
    obtain ⟨b, vs, bs, e1, e2, n, q, r⟩ := h
    rw [e2] at ha
    rcases List.mem_cons.mp ha with e | hb
    · subst e
      exact ⟨n, _, q⟩
    · exact RepOs.own r a hb
  | .ot os, v, as, h, a, ha => by
    unfold RepO at h
    obtain ⟨b, vs, e1, q, r⟩ := h
    exact RepOs.own r a ha
  | .od ks os, v, as, h, a, ha => by
    unfold RepO at h
    obtain ⟨b, ep, es, vs, bs, e1, e2, n, q, nk, rk, r⟩ := h
    rw [e2] at ha
    rcases List.mem_cons.mp ha with e | hb
    · subst e
      exact ⟨n, _, q⟩
    · exact RepOs.own r a hb
  | .ob c ns os, v, as, h, a, ha => by
    unfold RepO at h
    obtain ⟨b, C, dx, vs, bs, e1, e2, n1, n2, m, q, qd, l, r⟩ := h
    rw [e2] at ha
    rcases List.mem_cons.mp ha with e | hb
    · subst e
      exact ⟨n1, _, q⟩
    · rcases List.mem_cons.mp hb with e | hb
      · subst e
        exact ⟨n2, _, qd⟩
      · exact RepOs.own r a hb
theorem RepOs.own {g : Gl} {F H : Hp} : ∀ {os : List O} {vs : List V} {as : List Addr}, RepOs g F H os vs as → ∀ a ∈ as, F a = none ∧ ∃ u, H a = some u
  | [], _, as, h, a, ha => by
    unfold RepOs at h
    rw [h.2] at ha
    exact absurd ha (by simp)
  | o :: os, vs, as, h, a, ha => by
    unfold RepOs at h
    obtain ⟨v, r, a1, a2, e1, e2, q, t⟩ := h
    rw [e2] at ha
    rcases List.mem_append.mp ha with hb | hb
    · exact RepO.own q a hb
    · exact RepOs.own t a hb
end
mutual
def O.frz : O → D
  | .p d => d
  | .lst ds => .lst ds
  | .dct ks xs => .dct ks xs
  | .ol os => .lst (frzs os)
  | .ot os => .tup (frzs os)
  | .od ks os => .dct ks (frzs os)
  | .ob c ns os => .ins c ns (frzs os)
def frzs : List O → List D
  | [] => []
  | o :: os => o.frz :: frzs os
end
theorem frzs_length : ∀ os : List O, (frzs os).length = os.length
  | [] => rfl
  | o :: os => by
    unfold frzs
    rw [List.length_cons, List.length_cons, frzs_length os]
mutual
theorem RepO.view {g : Gl} {F H G : Hp} (s : Sub F G) : ∀ {o : O} {v : V} {as : List Addr}, RepO g F H o v as → (∀ a ∈ as, ∀ u, H a = some u → G a = some u) → RepD g G o.frz v
  | .p d, v, as, h, k => by
    unfold RepO at h
    exact h.1.mono s
  | .lst ds, v, as, h, k => by
    unfold RepO at h
    obtain ⟨a, vs, e1, e2, n, q, r⟩ := h
    unfold O.frz RepD
    exact ⟨a, vs, e1, .inl (.inl (k a (by rw [e2]; exact List.mem_cons_self) _ q)), r.mono s⟩
  | .dct ks xs, v, as, h, k => by
    unfold RepO at h
    obtain ⟨a, ep, es, vs, e1, e2, n, q, nk, rk, r⟩ := h
    unfold O.frz RepD
    exact ⟨a, ep, es, vs, e1, k a (by rw [e2]; exact List.mem_cons_self) _ q, nk, rk.mono s, r.mono s⟩
  | .ol os, v, as, h, k => by
    unfold RepO at h
    obtain ⟨a, vs, bs, e1, e2, n, q, r⟩ := h
    unfold O.frz RepD
    exact ⟨a, vs, e1, .inl (.inl (k a (by rw [e2]; exact List.mem_cons_self) _ q)), RepOs.view s r fun b hb => k b (by rw [e2]; exact List.mem_cons_of_mem _ hb)⟩
  | .ot os, v, as, h, k => by
    unfold RepO at h
    obtain ⟨a, vs, e1, q, r⟩ := h
    unfold O.frz RepD
    exact ⟨a, vs, e1, s.sqT q, RepOs.view s r k⟩
  | .od ks os, v, as, h, k => by
    unfold RepO at h
    obtain ⟨a, ep, es, vs, bs, e1, e2, n, q, nk, rk, r⟩ := h
    unfold O.frz RepD
    exact ⟨a, ep, es, vs, e1, k a (by rw [e2]; exact List.mem_cons_self) _ q, nk, rk.mono s, RepOs.view s r fun b hb => k b (by rw [e2]; exact List.mem_cons_of_mem _ hb)⟩
  | .ob c ns os, v, as, h, k => by
    unfold RepO at h
    obtain ⟨a, C, dx, vs, bs, e1, e2, n1, n2, m, q, qd, l, r⟩ := h
    unfold O.frz RepD
    exact ⟨a, C, dx, vs, e1, m, k a (by rw [e2]; exact List.mem_cons_self) _ q, by rw [frzs_length]; exact l, RepOs.view s r fun b hb => k b (by rw [e2]; exact List.mem_cons_of_mem _ (List.mem_cons_of_mem _ hb))⟩
theorem RepOs.view {g : Gl} {F H G : Hp} (s : Sub F G) : ∀ {os : List O} {vs : List V} {as : List Addr}, RepOs g F H os vs as → (∀ a ∈ as, ∀ u, H a = some u → G a = some u) → RepDs g G (frzs os) vs
  | [], _, _, h, _ => by
    unfold RepOs at h
    unfold frzs RepDs
    exact h.1
  | o :: os, vs, as, h, k => by
    unfold RepOs at h
    obtain ⟨v, r, a1, a2, e1, e2, q, t⟩ := h
    unfold frzs RepDs
    exact ⟨v, r, e1, RepO.view s q fun b hb => k b (by rw [e2]; exact List.mem_append_left _ hb), RepOs.view s t fun b hb => k b (by rw [e2]; exact List.mem_append_right _ hb)⟩
end
end DV
namespace DV
open PySem PySem.Spec PyProof.Rows L2
/-- an exception: its class, its fields -/
structure Ex where
  c : Str
  ns : List Str
  ds : List D
inductive R (α : Type) where
  | ok (a : α) | ex (x : Ex)
abbrev Ev := List (Option O)
abbrev Res (α : Type) := Option (R α × Ev)
/-- what a def does: arguments in; what it hands back, and what its arguments are behind it -/
abbrev FS := List O → Option (R O × List (Option O))
mutual
def D.py : D → PyData
  | .non => .none | .bl b => .bool b | .int i => .int i | .str s => .str s
  | .tup ds => .tuple (pys ds) | .lst ds => .list (pys ds)
  | .dct _ _ => .none | .ins _ _ _ => .none | .exc _ _ _ => .none
def pys : List D → List PyData
  | [] => []
  | d :: ds => d.py :: pys ds
end
mutual
def D.dep : D → Nat
  | .non => 0 | .bl _ => 0 | .int _ => 0 | .str s => if PyData.strOk s then 0 else 100
  | .tup ds => deps ds + 1 | .lst ds => deps ds + 1
  | .dct _ _ => 100 | .ins _ _ _ => 100 | .exc _ _ _ => 100
def deps : List D → Nat
  | [] => 0
  | d :: ds => max d.dep (deps ds)
end
inductive Prim where
  | add | sub | mul | fdiv | mod | pow | shl | shr | band | bor | bxor | neg
  | eq | ne | lt | le | gt | ge | isN | notN | in_ | notin
  | idx | sl (lo hi : Bool)
  | len | max1 | min1 | max2 | min2 | sum | int1 | lst1 | tup1 | any | all | divmod
  deriving DecidableEq
/-- where a loop's items go -/
inductive Tg where
  | one (i : Nat) | tup (is : List Nat)
/-- a way of one's own to go through something: its operands in the syntax (target, what is gone through), the items -/
structure ItP where
  sx : Scope → Expr → Expr → Option (List Expr)
  ev : List O → Option (List D)
inductive ItK where
  | rng1 | rng2 | seq | zip | enum | rev | items
  | own (p : ItP)
/-- an expression of values alone: its operands in the syntax, what it gives -/
structure Plug where
  sx : Scope → Expr → Option (List Expr)
  ev : List O → Option O
/-- a call of one's own: its operands in the syntax, what it does -/
structure CallD where
  sx : Scope → Expr → Option (List Expr)
  sem : FS
/-- a call of one's own whose receiver is known before its other operands: what it does, by the receiver -/
structure CallH where
  sx : Scope → Expr → Option (Expr × List Expr)
  ok : D → Bool
  sem : D → FS
/-- a method of a thing of one's own that stands in a slot: what it does, the thing lent -/
structure CallM where
  sx : Scope → Expr → Option (Expr × List Expr)
  ok : O → Bool
  sem : FS
/-- a call whose first operand is a slot's own thing, which stays as it is till the others are there (some of them ahead of it) -/
structure CallL where
  sx : Scope → Expr → Option (Expr × List Expr × List Expr)
  ok : O → Bool
  sem : FS
/-- a method of a built-in type that changes its receiver, a slot: kind, name, what it leaves and gives -/
structure MutD where
  nm : Str
  ok : O → Bool
  ev : O → List O → Option (O × D)
/-- a statement that changes a slot's thing: the receiver, the operands, perhaps a name in the syntax, what it leaves -/
structure SMut where
  sx : Scope → Stmt → Option (Expr × List Expr × Option Expr)
  ok : O → Bool
  ev : O → List O → Option D → Option O
/-- something of one's own taken out of a slot's thing, which is given up: the receiver, the operands -/
structure OwnD where
  sx : Scope → Expr → Option (Expr × List Expr)
  ok : O → Bool
  ev : O → List O → Option O
/-- a statement that lays something of one's own into a slot's thing: the receiver, what is laid, perhaps a name -/
structure SetOD where
  sx : Scope → Stmt → Option (Expr × Expr × Option Expr)
  ok : O → Bool
  ev : O → O → Option D → Option O
/-- a statement that raises: its operands in the syntax, what it raises -/
structure RaiseD where
  sx : Scope → Stmt → Option (List Expr)
  ev : List O → Option Ex
inductive E where
  | var (i : Nat)
  | mv (i : Nat)
  | non | bl (b : Bool) | int (i : Int) | str (s : Str)
  | glob (x : Str) (d : D)
  | prim (p : Prim) (es : List E)
  | isi (t : Str) (es : List E)
  | tup (es : List E)
  | lst (es : List E)
  | ot (es : List E)
  | ol (es : List E)
  | plug (p : Plug) (es : List E)
  | plugT (p : Plug) (es : List E)
  | callG (c : CallD) (es : List E)
  | callH (c : CallH) (e : E) (es : List E)
  | callM (c : CallM) (i : Nat) (es : List E)
  | callV (f : Str) (sem : List O → Option (R O × List (Option O))) (es : List E)
  | mut (p : MutD) (i : Nat) (es : List E)
  | frz (e : E)
  | lend (e : E)
  | own (p : OwnD) (i : Nat) (es : List E)
  | plugN (p : Plug) (js : List Nat)
  | callL (c : CallL) (i : Nat) (es fs : List E)
  | and_ (es : List E) | or_ (es : List E) | not_ (e : E)
  | cmp2 (p q : Prim) (a b c : E)
  | ite (t a b : E)
  | call (f : Str) (dv : List D) (sem : FS) (es : List E)
  | lc (g : Tg) (k : ItK) (src : List E) (cs : List E) (elt : E)
  | lenI (es : List E)
  | idxT (x : Str) (ys : List Str) (e : E)
mutual
inductive S where
  | asg (i : Nat) (e : E)
  | asgT (is : List Nat) (e : E)
  | asgO (is : List Nat) (e : E)
  | seti (i : Nat) (k v : E)
  | app (i : Nat) (e : E)
  | appin (i : Nat) (k e : E)
  | appinV (i : Nat) (k e : E)
  | setin (i : Nat) (k j v : E)
  | ex (e : E)
  | ife (t : E) (a b : List S)
  | for_ (g : Tg) (k : ItK) (src : List E) (body : List S)
  | whl (t : E) (body : List S)
  | ret (e : E) | retN
  | pass | brk | cnt
  | fz (i : Nat)
  | nev
  | rse (c : Str)
  | smut (p : SMut) (i : Nat) (es : List E) (j : Option Nat)
  | rsp (p : RaiseD) (es : List E)
  | seto (p : SetOD) (i : Nat) (e : E) (j : Option Nat)
  | smutL (p : SMut) (i : Nat) (es : List E)
  | kill (is : List Nat)
  | try_ (body : List S) (hs : Hs)
/-- except clauses: the classes, how the raised ones match, the name's slot, the suite -/
inductive Hs where
  | nil
  | cons (one : Bool) (cs : List Str) (tb : List (Str × Bool)) (nm : Option Nat) (suite : List S) (r : Hs)
end
inductive Opd where
  | sl (i : Nat) | val (d : D)
def Opd.vw (ρ : Ev) : Opd → Option O
  | .sl i => match ρ[i]? with
    | some (some o) => some o
    | _ => none
  | .val d => some (.p d)
def vws (ρ : Ev) : List Opd → Option (List O)
  | [] => some []
  | q :: qs => match q.vw ρ, vws ρ qs with
    | some o, some os => some (o :: os)
    | _, _ => none
def O.items : O → Option (List D)
  | .p (.lst ds) => some ds
  | .p (.tup ds) => some ds
  | .lst ds => some ds
  | _ => none
def cutD (ds : List D) (lo hi : Option Int) : List D := (ds.drop (HT.sIx ds.length 0 lo)).take (HT.sIx ds.length ds.length hi - HT.sIx ds.length 0 lo)
def eqD (a b : D) : Option Bool := if a.dep ≤ 64 ∧ b.dep ≤ 64 then some (PyData.eqv a.py b.py) else none
def inD (a : D) : List D → Option Bool
  | [] => if a.dep ≤ 64 then some false else none
  | b :: bs => match eqD b a, inD a bs with
    | some u, some v => some (u || v)
    | _, _ => none
def intsD : List D → Option (List Int)
  | [] => some []
  | .int i :: ds => (intsD ds).map (i :: ·)
  | _ :: _ => none
def strsD : List D → Option (List Str)
  | [] => some []
  | .str i :: ds => (strsD ds).map (i :: ·)
  | _ :: _ => none
def blsD : List D → Option (List Bool)
  | [] => some []
  | .bl i :: ds => (blsD ds).map (i :: ·)
  | _ :: _ => none
def maxL : Int → List Int → Int
  | a, [] => a
  | a, b :: r => maxL (if b > a then b else a) r
def minL : Int → List Int → Int
  | a, [] => a
  | a, b :: r => minL (if b < a then b else a) r
def i2 (f : Int → Int → Option D) : List O → Option O
  | [.p (.int i), .p (.int j)] => match f i j with
    | some d => some (.p d)
    | none => none
  | _ => none
def it1 (f : List D → Option O) : List O → Option O
  | [o] => match o.items with
    | some ds => f ds
    | none => none
  | _ => none
def pAdd : List O → Option O
  | [.p (.int i), .p (.int j)] => some (.p (.int (i + j)))
  | [.p (.str a), .p (.str b)] => if a.length + b.length ≤ sizeLine then some (.p (.str (a ++ b))) else none
  | [.p (.tup a), .p (.tup b)] => if a.length + b.length ≤ sizeLine then some (.p (.tup (a ++ b))) else none
  | [.p (.lst a), .p (.lst b)] => if a.length + b.length ≤ sizeLine then some (.lst (a ++ b)) else none
  | [.p (.lst a), .lst b] => if a.length + b.length ≤ sizeLine then some (.lst (a ++ b)) else none
  | [.lst a, .p (.lst b)] => if a.length + b.length ≤ sizeLine then some (.lst (a ++ b)) else none
  | [.lst a, .lst b] => if a.length + b.length ≤ sizeLine then some (.lst (a ++ b)) else none
  | _ => none
def pEq (n : Bool) : List O → Option O
  | [a, b] => match eqD a.frz b.frz with
    | some x => some (.p (.bl (x != n)))
    | none => none
  | _ => none
def isNonO : O → Bool
  | .p .non => true
  | _ => false
def pIsN (n : Bool) : List O → Option O
  | [a] => some (.p (.bl (isNonO a != n)))
  | _ => none
def pIn (n : Bool) : List O → Option O
  | [.p a, .p (.str z)] => match a with
    | .str w => if z.length ≤ sizeLine then match w.cps.toList with
      | [c] => some (.p (.bl (decide (c ∈ z.cps.toList) != n)))
      | _ => none else none
    | _ => none
  | [a, o] => match o.items with
    | some ds => match inD a.frz ds with
      | some b => some (.p (.bl (b != n)))
      | none => none
    | none => none
  | _ => none
def pIdx : List O → Option O
  | [.p (.str z), .p (.int i)] => if z.length ≤ sizeLine then match L2.atI z.cps.toList i with
    | some c => some (.p (.str ⟨#[c]⟩))
    | none => none else none
  | [o, .p (.int i)] => match o.items with
    | some ds => match L2.atI ds i with
      | some d => some (.p d)
      | none => none
    | none => none
  | _ => none
def cutO (lo hi : Option Int) : O → Option O
  | .p (.str z) => if z.length ≤ sizeLine then some (.p (.str (L2.cutS z lo hi))) else none
  | .p (.tup ds) => some (.p (.tup (cutD ds lo hi)))
  | .p (.lst ds) => some (.lst (cutD ds lo hi))
  | .lst ds => some (.lst (cutD ds lo hi))
  | _ => none
def pSl2 : List O → Option O
  | [o, .p (.int i), .p (.int j)] => cutO (some i) (some j) o
  | _ => none
def pSlL : List O → Option O
  | [o, .p (.int i)] => cutO (some i) none o
  | _ => none
def pSlH : List O → Option O
  | [o, .p (.int j)] => cutO none (some j) o
  | _ => none
def pSl : Bool → Bool → List O → Option O
  | true, true => pSl2
  | true, false => pSlL
  | false, true => pSlH
  | false, false => fun _ => none
def pLen : List O → Option O
  | [.p (.str z)] => if z.length ≤ sizeLine then some (.p (.int z.length)) else none
  | [.ol os] => some (.p (.int os.length))
  | [o] => match o.items with
    | some ds => some (.p (.int ds.length))
    | none => none
  | _ => none
def lsts1 (f : List D → Option O) : List O → Option O
  | [.p (.lst ds)] => f ds
  | [.lst ds] => f ds
  | _ => none
def pInt1 : List O → Option O
  | [.p (.int i)] => some (.p (.int i))
  | [.p (.bl b)] => some (.p (.int (if b then 1 else 0)))
  | _ => none
def pNeg : List O → Option O
  | [.p (.int i)] => some (.p (.int (-i)))
  | _ => none
def pev : Prim → List O → Option O
  | .add => pAdd
  | .sub => i2 fun i j => some (.int (i - j))
  | .mul => i2 fun i j => if ((-(2 ^ 64) < i ∧ i < 2 ^ 64) ∨ (-(2 ^ 64) < j ∧ j < 2 ^ 64)) ∨ i.natAbs.log2 + j.natAbs.log2 < 1000000 then some (.int (i * j)) else none
  | .fdiv => i2 fun i j => if (0 < j ∧ j < 1073741824) ∨ (0 < j ∧ j.natAbs.log2 < 9000) then some (.int (i / j)) else none
  | .divmod => i2 fun i j => if (0 < j ∧ j < 1073741824) ∨ (0 < j ∧ j.natAbs.log2 < 9000) then some (.tup [.int (i / j), .int (i % j)]) else none
  | .mod => i2 fun i j => if 0 < j then some (.int (i % j)) else none
  | .pow => i2 fun i j => if (0 ≤ j ∧ j ≤ 1000000 ∧ i.natAbs < 2 ^ 64) ∨ (0 ≤ j ∧ (Builtin.Int.intBits i : Int) * j ≤ 2 ^ 27) then some (.int (i ^ j.toNat)) else none
  | .shl => i2 fun i j => if 0 ≤ j ∧ j ≤ 1000000 ∧ i.natAbs < 2 ^ 64 then some (.int (i * 2 ^ j.toNat)) else none
  | .shr => i2 fun i j => if 0 ≤ j then some (.int (i / 2 ^ j.toNat)) else none
  | .band => i2 fun i j => some (.int (Builtin.bitAnd i j))
  | .bor => i2 fun i j => some (.int (Builtin.bitOr i j))
  | .bxor => i2 fun i j => some (.int (Builtin.bitXor i j))
  | .neg => pNeg
  | .eq => pEq false
  | .ne => pEq true
  | .lt => i2 fun i j => some (.bl (decide (i < j)))
  | .le => i2 fun i j => some (.bl (decide (i ≤ j)))
  | .gt => i2 fun i j => some (.bl (decide (j < i)))
  | .ge => i2 fun i j => some (.bl (decide (j ≤ i)))
  | .isN => pIsN false
  | .notN => pIsN true
  | .in_ => pIn false
  | .notin => pIn true
  | .idx => pIdx
  | .sl lo hi => pSl lo hi
  | .len => pLen
  | .max1 => lsts1 fun ds => match intsD ds with
    | some (a :: r) => some (.p (.int (maxL a r)))
    | _ => none
  | .min1 => lsts1 fun ds => match intsD ds with
    | some (a :: r) => some (.p (.int (minL a r)))
    | _ => none
  | .max2 => i2 fun i j => some (.int (if j > i then j else i))
  | .min2 => i2 fun i j => some (.int (if j < i then j else i))
  | .sum => lsts1 fun ds => match intsD ds with
    | some ns => some (.p (.int ns.sum))
    | none => none
  | .int1 => pInt1
  | .lst1 => it1 fun ds => some (.lst ds)
  | .tup1 => it1 fun ds => some (.p (.tup ds))
  | .any => lsts1 fun ds => match blsD ds with
    | some bs => some (.p (.bl (bs.any id)))
    | none => none
  | .all => lsts1 fun ds => match blsD ds with
    | some bs => some (.p (.bl (bs.all id)))
    | none => none
/-- a built-in type of this name -/
def bty (x : Str) : Option String :=
  if x = "int" then some "int" else if x = "bool" then some "bool" else if x = "str" then some "str" else if x = "tuple" then some "tuple" else if x = "list" then some "list" else none
/-- the type of a thing -/
def tyO : D → Option String
  | .non => some "NoneType" | .bl _ => some "bool" | .int _ => some "int" | .str _ => some "str" | .tup _ => some "tuple" | .lst _ => some "list" | .dct _ _ => none | .ins _ _ _ => none | .exc _ _ _ => none
def isiO (t : Str) (d : D) : Option Bool := match tyO d, bty t with
  | some a, some b => L2.kitB a b
  | _, _ => none
def setAll : List Nat → List D → Ev → Option Ev
  | [], [], ρ => some ρ
  | i :: is, d :: ds, ρ => if i < ρ.length then setAll is ds (ρ.set i (some (.p d))) else none
  | _, _, _ => none
def Tg.set : Tg → D → Ev → Option Ev
  | .one i, d, ρ => if i < ρ.length then some (ρ.set i (some (.p d))) else none
  | .tup is, .tup ds, ρ => setAll is ds ρ
  | .tup _, _, _ => none
def Tg.slots : Tg → List Nat
  | .one i => [i]
  | .tup is => is
def rngD (lo : Int) : Nat → List D
  | 0 => []
  | n + 1 => .int lo :: rngD (lo + 1) n
def zipD : List D → List D → List D
  | a :: as, b :: bs => .tup [a, b] :: zipD as bs
  | _, _ => []
def enumD : Int → List D → List D
  | _, [] => []
  | k, a :: as => .tup [.int k, a] :: enumD (k + 1) as
def itR1 : List O → Option (List D)
  | [.p (.int n)] => if n < 2 ^ 62 ∧ -(2 ^ 62) ≤ n then some (rngD 0 n.toNat) else none
  | _ => none
def itR2 : List O → Option (List D)
  | [.p (.int a), .p (.int b)] => if -(2 ^ 62) ≤ a ∧ a < 2 ^ 62 ∧ -(2 ^ 62) ≤ b ∧ b < 2 ^ 62 then some (rngD a (b - a).toNat) else none
  | _ => none
def itSeq : List O → Option (List D)
  | [o] => o.items
  | _ => none
def itZip : List O → Option (List D)
  | [a, b] => match a.items, b.items with
    | some x, some y => some (zipD x y)
    | _, _ => none
  | _ => none
def itEnum : List O → Option (List D)
  | [a] => match a.items with
    | some x => some (enumD 0 x)
    | none => none
  | _ => none
def itRev : List O → Option (List D)
  | [a] => match a.items with
    | some x => some x.reverse
    | none => none
  | _ => none
def itD : ItK → List O → Option (List D)
  | .rng1 => itR1 | .rng2 => itR2 | .seq => itSeq | .zip => itZip | .enum => itEnum | .rev => itRev | .items => fun _ => none | .own p => p.ev
/-- those that are its own -/
def isOwn : Option (Option O) → Bool
  | some (some (.p _)) => false
  | some (some _) => true
  | _ => false
/-- the slots among some operands that are its own -/
def ownIx (ρ : Ev) : List Opd → List (Option Nat)
  | [] => []
  | .sl i :: r => (if isOwn ρ[i]? then some i else none) :: ownIx ρ r
  | .val _ :: r => none :: ownIx ρ r
def somes : List (Option Nat) → List Nat
  | [] => []
  | some i :: r => i :: somes r
  | none :: r => somes r
abbrev lockd (ρ : Ev) (qs : List Opd) : List Nat := somes (ownIx ρ qs)
def hideAll (ρ : Ev) : List Nat → Ev
  | [] => ρ
  | i :: is => hideAll (ρ.set i none) is
def backAll (ρ₀ ρ : Ev) : List Nat → Ev
  | [] => ρ
  | i :: is => backAll ρ₀ (ρ.set i (ρ₀.getD i none)) is
def lcRun (g : Tg) (cnd : Ev → Res Bool) (elt : Ev → Res O) : List D → Ev → Option (List D × Ev)
  | [], ρ => some ([], ρ)
  | d :: ds, ρ => match g.set d ρ with
    | none => none
    | some ρ1 => match cnd ρ1 with
      | some (.ok true, ρ2) => match elt ρ2 with
        | some (.ok (.p y), ρ3) => match lcRun g cnd elt ds (hideAll ρ3 g.slots) with
          | some (ys, ρ4) => some (y :: ys, ρ4)
          | none => none
        | _ => none
      | some (.ok false, ρ2) => lcRun g cnd elt ds (hideAll ρ2 g.slots)
      | _ => none
/-- the arguments that are slots of its own get back what the call left there -/
def giveBack (ρ : Ev) : List (Option Nat) → List (Option O) → Ev
  | some i :: r, o :: os => giveBack (ρ.set i o) r os
  | none :: r, _ :: os => giveBack ρ r os
  | _, _ => ρ
def pures : List O → Option (List D)
  | [] => some []
  | .p d :: os => (pures os).map (d :: ·)
  | _ :: _ => none
/-- len(x[j]), x a list of lists of its own -/
def lenIO : List O → Option O
  | [.ol os, .p (.int j)] => match L2.ixN os.length j with
    | some k => match os[k]? with
      | some o => match o.items with
        | some ds => some (.p (.int ds.length))
        | none => none
      | none => none
    | none => none
  | _ => none
/-- < or <= -/
def cmpZ : Prim → Int → Int → Bool
  | .lt, i, j => decide (i < j)
  | _, i, j => decide (i ≤ j)
def cmp2C (q : Prim) (y : Int) : Res O → Res O
  | some (.ok (.p (.int z)), ρ3) => some (.ok (.p (.bl (cmpZ q y z))), ρ3)
  | some (.ex x, ρ3) => some (.ex x, ρ3)
  | _ => none
/-- where a text stands first -/
def idxS (z : Str) : List Str → Option Nat
  | [] => none
  | y :: r => if y = z then some 0 else (idxS z r).map (· + 1)
def idxC (ys : List Str) : Res O → Res O
  | some (.ok (.p (.str z)), ρ) => match idxS z ys with
    | some j => some (.ok (.p (.int j)), ρ)
    | none => none
  | some (.ex x, ρ) => some (.ex x, ρ)
  | _ => none
def plugC (p : Plug) (ρ : Ev) : Option (List O) → Res O
  | some os => match p.ev os with
    | some o => some (.ok o, ρ)
    | none => none
  | none => none
def plugB (p : Plug) : Res (List Opd) → Res O
  | some (.ok qs, ρ) => plugC p ρ (vws ρ qs)
  | some (.ex x, ρ) => some (.ex x, ρ)
  | none => none
def callD (ρ : Ev) (L : List Nat) (ix : List (Option Nat)) : Option (R O × List (Option O)) → Res O
  | some (.ok o, bs) => some (.ok o, giveBack (hideAll ρ L) ix bs)
  | some (.ex x, bs) => some (.ex x, giveBack (hideAll ρ L) ix bs)
  | none => none
def callC (sem : FS) (dv : List D) (ρ : Ev) (ix : List (Option Nat)) : Option (List O) → Res O
  | some os => if (somes ix).Nodup then callD ρ (somes ix) ix (sem (os ++ dv.map .p)) else none
  | none => none
def callB (sem : FS) (dv : List D) : Res (List Opd) → Res O
  | some (.ok qs, ρ) => callC sem dv ρ (ownIx ρ qs) (vws ρ qs)
  | some (.ex x, ρ) => some (.ex x, ρ)
  | none => none
def consQ (d : D) : Res (List Opd) → Res (List Opd)
  | some (.ok qs, ρ) => some (.ok (.val d :: qs), ρ)
  | some (.ex x, ρ) => some (.ex x, ρ)
  | none => none
def consS (i : Nat) : Res (List Opd) → Res (List Opd)
  | some (.ok qs, ρ) => some (.ok (.sl i :: qs), ρ)
  | some (.ex x, ρ) => some (.ex x, ρ)
  | none => none
def callMA (c : CallM) (r : Res O) : Option (Option O) → Res O
  | some (some o) => if c.ok o = true then r else none
  | _ => none
def callW (ρ : Ev) : Option (R O × List (Option O)) → Res O
  | some (r, _) => some (r, ρ)
  | none => none
/-- a call whose arguments are all fresh -/
def callV (sem : FS) : Res (List O) → Res O
  | some (.ok os, ρ) => callW ρ (sem os)
  | some (.ex x, ρ) => some (.ex x, ρ)
  | none => none
def mutD (i : Nat) (ρ : Ev) : Option (O × D) → Res O
  | some (o, d) => some (.ok (.p d), ρ.set i (some o))
  | none => none
def mutC (p : MutD) (i : Nat) (ρ : Ev) : Option (Option O) → Option (List O) → Res O
  | some (some o), some os => mutD i ρ (p.ev o os)
  | _, _ => none
def mutB (p : MutD) (i : Nat) : Res (List Opd) → Res O
  | some (.ok qs, ρ) => mutC p i ρ ρ[i]? (vws ρ qs)
  | some (.ex x, ρ) => some (.ex x, ρ)
  | none => none
def mutA (p : MutD) (r : Res O) : Option (Option O) → Res O
  | some (some o) => if p.ok o = true then r else none
  | _ => none
def appQ (qs : List Opd) : Res (List Opd) → Res (List Opd)
  | some (.ok ps, ρ) => some (.ok (qs ++ ps), ρ)
  | some (.ex x, ρ) => some (.ex x, ρ)
  | none => none
def bindQ (f : Ev → Res (List Opd)) : Res (List Opd) → Res (List Opd)
  | some (.ok qs, ρ) => appQ qs (f ρ)
  | some (.ex x, ρ) => some (.ex x, ρ)
  | none => none
/-- a locked slot comes back -/
def unlQ (i : Nat) (o : O) : Res (List Opd) → Res (List Opd)
  | some (.ok qs, ρ) => some (.ok qs, ρ.set i (some o))
  | some (.ex x, ρ) => some (.ex x, ρ.set i (some o))
  | none => none
def callLC (c : CallL) (i : Nat) (o : O) (f : Ev → Res (List Opd)) (ρ : Ev) : Bool → Res O
  | true => callB c.sem [] (consS i (unlQ i o (f (ρ.set i none))))
  | false => none
def callLA (c : CallL) (i : Nat) (f : Ev → Res (List Opd)) (ρ : Ev) : Option (Option O) → Res O
  | some (some o) => callLC c i o f ρ (c.ok o)
  | _ => none
def owD (i : Nat) (ρ : Ev) : Option O → Res O
  | some o => some (.ok o, ρ.set i none)
  | none => none
def owC (p : OwnD) (i : Nat) (ρ : Ev) : Option (Option O) → Option (List O) → Res O
  | some (some o), some os => owD i ρ (p.ev o os)
  | _, _ => none
def owB (p : OwnD) (i : Nat) : Res (List Opd) → Res O
  | some (.ok qs, ρ) => owC p i ρ ρ[i]? (vws ρ qs)
  | some (.ex x, ρ) => some (.ex x, ρ)
  | none => none
def owA (p : OwnD) (r : Res O) : Option (Option O) → Res O
  | some (some o) => if p.ok o = true then r else none
  | _ => none
/-- all that is one's own, looked at alone -/
def viewO : Option O → Option O
  | some o => some (.p o.frz)
  | none => none
def viewE (ρ : Ev) : Ev := ρ.map viewO
mutual
/-- scalars, and tuples of such -/
def flatD : D → Bool
  | .non => true
  | .bl _ => true
  | .int _ => true
  | .str _ => true
  | .tup ds => flatDs ds
  | _ => false
def flatDs : List D → Bool
  | [] => true
  | d :: ds => flatD d && flatDs ds
end
def lendC (ρ : Ev) : Res O → Res O
  | some (.ok (.p d), _) => if flatD d = true then some (.ok (.p d), ρ) else none
  | _ => none
mutual
def evE : E → Ev → Res O
  | .var i, ρ => match ρ[i]? with
    | some (some (.p d)) => some (.ok (.p d), ρ)
    | _ => none
  | .mv i, ρ => match ρ[i]? with
    | some (some o) => some (.ok o, ρ.set i none)
    | _ => none
  | .non, ρ => some (.ok (.p .non), ρ)
  | .bl b, ρ => some (.ok (.p (.bl b)), ρ)
  | .int i, ρ => some (.ok (.p (.int i)), ρ)
  | .str s, ρ => some (.ok (.p (.str s)), ρ)
  | .glob _ d, ρ => some (.ok (.p d), ρ)
  | .prim p es, ρ => match evOs es ρ with
    | some (.ok qs, ρ') => match vws ρ' qs with
      | some os => match pev p os with
        | some o => some (.ok o, ρ')
        | none => none
      | none => none
    | some (.ex x, ρ') => some (.ex x, ρ')
    | none => none
  | .isi t es, ρ => match evOs es ρ with
    | some (.ok qs, ρ') => match vws ρ' qs with
      | some [o] => match isiO t o.frz with
        | some b => some (.ok (.p (.bl b)), ρ')
        | none => none
      | _ => none
    | some (.ex x, ρ') => some (.ex x, ρ')
    | none => none
  | .tup es, ρ => match evEs es ρ with
    | some (.ok os, ρ') => match pures os with
      | some ds => if ds.length ≤ sizeLine then some (.ok (.p (.tup ds)), ρ') else none
      | none => none
    | some (.ex x, ρ') => some (.ex x, ρ')
    | none => none
  | .lst es, ρ => match evEs es ρ with
    | some (.ok os, ρ') => match pures os with
      | some ds => if ds.length ≤ sizeLine then some (.ok (.lst ds), ρ') else none
      | none => none
    | some (.ex x, ρ') => some (.ex x, ρ')
    | none => none
  | .ot es, ρ => match evEs es ρ with
    | some (.ok os, ρ') => if os.length ≤ sizeLine then some (.ok (.ot os), ρ') else none
    | some (.ex x, ρ') => some (.ex x, ρ')
    | none => none
  | .ol es, ρ => match evEs es ρ with
    | some (.ok os, ρ') => if os.length ≤ sizeLine then some (.ok (.ol os), ρ') else none
    | some (.ex x, ρ') => some (.ex x, ρ')
    | none => none
  | .frz e, ρ => match evE e ρ with
    | some (.ok o, ρ') => some (.ok (.p o.frz), ρ')
    | some (.ex x, ρ') => some (.ex x, ρ')
    | none => none
  | .lend e, ρ => lendC ρ (evE e (viewE ρ))
  | .plugN p js, ρ => plugC p ρ (vws ρ (js.map .sl))
  | .own p i es, ρ => owA p (owB p i (evOs es ρ)) ρ[i]?
  | .callL c i es fs, ρ => callLA c i (fun r => bindQ (fun r2 => evOs fs r2) (evOs es r)) ρ ρ[i]?
  | .and_ es, ρ => evAnd es ρ
  | .or_ es, ρ => evOr es ρ
  | .not_ e, ρ => match evE e ρ with
    | some (.ok (.p (.bl b)), ρ') => some (.ok (.p (.bl (!b))), ρ')
    | some (.ex x, ρ') => some (.ex x, ρ')
    | _ => none
  | .call _ dv sem es, ρ => match evOs es ρ with
    | some (.ok qs, ρ') => match vws ρ' qs with
      | some os => if (lockd ρ' qs).Nodup then match sem (os ++ dv.map .p) with
        | some (.ok o, bs) => some (.ok o, giveBack (hideAll ρ' (lockd ρ' qs)) (ownIx ρ' qs) bs)
        | some (.ex x, bs) => some (.ex x, giveBack (hideAll ρ' (lockd ρ' qs)) (ownIx ρ' qs) bs)
        | none => none else none
      | none => none
    | some (.ex x, ρ') => some (.ex x, ρ')
    | none => none
  | .lc g k src cs elt, ρ => match evOs src ρ with
    | some (.ok qs, ρ') => match vws ρ' qs with
      | some os => match itD k os with
        | some ds => if (lockd ρ' qs ++ g.slots).Nodup ∧ ds.length ≤ sizeLine then match lcRun g (fun r => evTs cs r) (fun r => evE elt r) ds (hideAll ρ' (lockd ρ' qs ++ g.slots)) with
          | some (ys, ρ2) => some (.ok (.lst ys), backAll ρ' ρ2 (lockd ρ' qs ++ g.slots))
          | none => none else none
        | none => none
      | none => none
    | some (.ex x, ρ') => some (.ex x, ρ')
    | none => none
  | .lenI es, ρ => match evOs es ρ with
    | some (.ok qs, ρ') => match vws ρ' qs with
      | some os => match lenIO os with
        | some o => some (.ok o, ρ')
        | none => none
      | none => none
    | some (.ex x, ρ') => some (.ex x, ρ')
    | none => none
  | .cmp2 p q a b c, ρ => match evE a ρ with
    | some (.ok (.p (.int x)), ρ1) => match evE b ρ1 with
      | some (.ok (.p (.int y)), ρ2) => match cmpZ p x y with
        | true => cmp2C q y (evE c ρ2)
        | false => some (.ok (.p (.bl false)), ρ2)
      | some (.ex x, ρ2) => some (.ex x, ρ2)
      | _ => none
    | some (.ex x, ρ1) => some (.ex x, ρ1)
    | _ => none
  | .idxT _ ys e, ρ => idxC ys (evE e ρ)
  | .plug p es, ρ => plugB p (evOs es ρ)
  | .plugT p es, ρ => plugB p (evOs es ρ)
  | .callG c es, ρ => callB c.sem [] (evOs es ρ)
  | .callV _ sem es, ρ => callV sem (evEs es ρ)
  | .callH c e es, ρ => match evE e ρ with
    | some (.ok (.p d), ρ1) => match c.ok d with
      | true => callB (c.sem d) [] (consQ d (evOs es ρ1))
      | false => none
    | some (.ex x, ρ1) => some (.ex x, ρ1)
    | _ => none
  | .callM c i es, ρ => callMA c (callB c.sem [] (consS i (evOs es ρ))) ρ[i]?
  | .mut p i es, ρ => mutA p (mutB p i (evOs es ρ)) ρ[i]?
  | .ite t a b, ρ => match evE t ρ with
    | some (.ok (.p (.bl true)), ρ1) => evE a ρ1
    | some (.ok (.p (.bl false)), ρ1) => evE b ρ1
    | some (.ex x, ρ1) => some (.ex x, ρ1)
    | _ => none
/-- a row of values -/
def evEs : List E → Ev → Res (List O)
  | [], ρ => some (.ok [], ρ)
  | e :: es, ρ => match evE e ρ with
    | some (.ok o, ρ') => match evEs es ρ' with
      | some (.ok os, ρ2) => some (.ok (o :: os), ρ2)
      | some (.ex x, ρ2) => some (.ex x, ρ2)
      | none => none
    | some (.ex x, ρ') => some (.ex x, ρ')
    | none => none
/-- a row of operands: a slot is looked at behind them all -/
def evOs : List E → Ev → Res (List Opd)
  | [], ρ => some (.ok [], ρ)
  | .var i :: es, ρ => match ρ[i]? with
    | some (some _) => match evOs es ρ with
      | some (.ok qs, ρ2) => some (.ok (.sl i :: qs), ρ2)
      | some (.ex x, ρ2) => some (.ex x, ρ2)
      | none => none
    | _ => none
  | e :: es, ρ => match evE e ρ with
    | some (.ok o, ρ') => match evOs es ρ' with
      | some (.ok qs, ρ2) => some (.ok (.val o.frz :: qs), ρ2)
      | some (.ex x, ρ2) => some (.ex x, ρ2)
      | none => none
    | some (.ex x, ρ') => some (.ex x, ρ')
    | none => none
def evAnd : List E → Ev → Res O
  | [], _ => none
  | [e], ρ => evE e ρ
  | e :: es, ρ => match evE e ρ with
    | some (.ok (.p (.bl true)), ρ') => evAnd es ρ'
    | some (.ok (.p (.bl false)), ρ') => some (.ok (.p (.bl false)), ρ')
    | some (.ex x, ρ') => some (.ex x, ρ')
    | _ => none
def evOr : List E → Ev → Res O
  | [], _ => none
  | [e], ρ => evE e ρ
  | e :: es, ρ => match evE e ρ with
    | some (.ok (.p (.bl false)), ρ') => evOr es ρ'
    | some (.ok (.p (.bl true)), ρ') => some (.ok (.p (.bl true)), ρ')
    | some (.ex x, ρ') => some (.ex x, ρ')
    | _ => none
/-- the tests of a comprehension -/
def evTs : List E → Ev → Res Bool
  | [], ρ => some (.ok true, ρ)
  | e :: es, ρ => match evE e ρ with
    | some (.ok (.p (.bl true)), ρ') => evTs es ρ'
    | some (.ok (.p (.bl false)), ρ') => some (.ok false, ρ')
    | _ => none
end
end DV
namespace DV
open PySem PySem.Spec PyProof.Rows L2
abbrev St := L2.St
abbrev gl (X : Cx) : Gl := ⟨X.K, X.mg, X.w⟩
/-- what is its own in a frame -/
def Own (fp : Nat → List Addr) (a : Addr) : Prop := ∃ i, a ∈ fp i
structure SOK (g : Gl) (F H : Hp) (σ : St) (ρ : Ev) (fp : Nat → List Addr) : Prop where
  sub : Sub F H
  len : ρ.length = σ.length
  at_ : ∀ i o, ρ[i]? = some (some o) → ∃ v, σ[i]? = some (some v) ∧ RepO g F H o v (fp i)
  nd : ∀ i, (fp i).Nodup
  dj : ∀ i j a, a ∈ fp i → a ∈ fp j → i = j
  emp : ∀ i, (∀ o, ρ[i]? ≠ some (some o)) → fp i = []
structure Step (F H : Hp) (own : Addr → Prop) (F' H' : Hp) : Prop where
  mono : Sub F F'
  sub : Sub F' H'
  keep : ∀ a o, H a = some o → ¬ own a → H' a = some o
  newF : ∀ a o, F' a = some o → F a = some o ∨ H a = none ∨ own a
theorem none_or {H : Hp} (a : Addr) : H a = none ∨ ∃ o, H a = some o := by
  cases e : H a with
  | none => exact .inl rfl
  | some o => exact .inr ⟨o, rfl⟩
theorem SOK.own {g : Gl} {F H : Hp} {σ : St} {ρ : Ev} {fp : Nat → List Addr} (S : SOK g F H σ ρ fp) {a : Addr} (h : Own fp a) : F a = none ∧ ∃ u, H a = some u := by
  obtain ⟨i, hi⟩ := h
  by_cases e : ∃ o, ρ[i]? = some (some o)
  · obtain ⟨o, e⟩ := e
    obtain ⟨v, _, r⟩ := S.at_ i o e
    exact r.own a hi
  · have z := S.emp i (fun o q => e ⟨o, q⟩)
    rw [z] at hi
    exact absurd hi (by simp)
theorem Step.refl {F H : Hp} {own : Addr → Prop} (s : Sub F H) : Step F H own F H := ⟨Sub.refl F, s, fun _ _ h _ => h, fun _ _ h => .inl h⟩
theorem Step.trans {F H F1 H1 F2 H2 : Hp} {own own1 : Addr → Prop} (a : Step F H own F1 H1) (b : Step F1 H1 own1 F2 H2) (h : ∀ c, own1 c → own c ∨ H c = none) : Step F H own F2 H2 where
  mono := a.mono.trans b.mono
  sub := b.sub
  keep := fun c o e n => b.keep c o (a.keep c o e n) fun q => by
    rcases h c q with z | z
    · exact n z
    · rw [z] at e; cases e
  newF := fun c o e => by
    rcases b.newF c o e with q | q | q
    · exact a.newF c o q
    · by_cases hc : own c
      · exact .inr (.inr hc)
      · rcases none_or (H := H) c with z | ⟨u, z⟩
        · exact .inr (.inl z)
        · rw [a.keep c u z hc] at q; cases q
    · rcases h c q with z | z
      · exact .inr (.inr z)
      · exact .inr (.inl z)
theorem own_trans {H H1 : Hp} {own own1 own2 : Addr → Prop} {F F1 : Hp} (s : Step F H own F1 H1) (h1 : ∀ a, own1 a → own a ∨ H a = none) (h2 : ∀ a, own2 a → own1 a ∨ H1 a = none) : ∀ a, own2 a → own a ∨ H a = none := fun a q => by
  rcases h2 a q with z | z
  · exact h1 a z
  · by_cases hc : own a
    · exact .inl hc
    · rcases none_or (H := H) a with w | ⟨u, w⟩
      · exact .inr w
      · rw [s.keep a u w hc] at z; cases z
/-- what stands by while others are at work -/
theorem RepO.stay {g : Gl} {F H F' H' : Hp} {own : Addr → Prop} {o : O} {v : V} {as : List Addr} (s : Step F H own F' H') (r : RepO g F H o v as) (n : ∀ a ∈ as, ¬ own a) : RepO g F' H' o v as := by
  refine r.mono s.mono fun a ha => ?_
  obtain ⟨f, u, hu⟩ := r.own a ha
  refine ⟨?_, fun w hw => s.keep a w hw (n a ha)⟩
  rcases none_or (H := F') a with z | ⟨w, z⟩
  · exact z
  · rcases s.newF a w z with q | q | q
    · rw [f] at q; cases q
    · rw [hu] at q; cases q
    · exact absurd q (n a ha)
/-- a state, where more is frozen, or others are at work -/
theorem SOK.stay {g : Gl} {F H F' H' : Hp} {own : Addr → Prop} {σ : St} {ρ : Ev} {fp : Nat → List Addr} (S : SOK g F H σ ρ fp) (s : Step F H own F' H') (n : ∀ a, Own fp a → ¬ own a) : SOK g F' H' σ ρ fp :=
  ⟨s.sub, S.len, fun i o e => by
    obtain ⟨v, h1, h2⟩ := S.at_ i o e
    exact ⟨v, h1, h2.stay s fun a ha => n a ⟨i, ha⟩⟩, S.nd, S.dj, S.emp⟩
def frzF (F H : Hp) (fr : List Addr) : Hp := fun a => if a ∈ fr then H a else F a
theorem frzF_sub {F H : Hp} {fr : List Addr} (s : Sub F H) : Sub (frzF F H fr) H := fun a o e => by
  unfold frzF at e
  split at e
  · exact e
  · exact s a o e
theorem frzF_mono {F H : Hp} {fr : List Addr} (n : ∀ a ∈ fr, F a = none) : Sub F (frzF F H fr) := fun a o e => by
  unfold frzF
  rw [if_neg fun q => by rw [n a q] at e; cases e]
  exact e
theorem frzF_at {F H : Hp} {fr : List Addr} {a : Addr} {u : HO} (h : a ∈ fr) (e : H a = some u) : frzF F H fr a = some u := by
  unfold frzF
  rw [if_pos h]
  exact e
theorem RepO.freeze {g : Gl} {F H : Hp} {o : O} {v : V} {fr : List Addr} (s : Sub F H) (r : RepO g F H o v fr) : RepD g (frzF F H fr) o.frz v :=
  r.view (frzF_mono fun a ha => (r.own a ha).1) fun a ha u hu => frzF_at ha hu
theorem Step.freeze {F H : Hp} {own : Addr → Prop} {fr : List Addr} (s : Sub F H) (n : ∀ a ∈ fr, F a = none) (h : ∀ a ∈ fr, own a) : Step F H own (frzF F H fr) H :=
  ⟨frzF_mono n, frzF_sub s, fun _ _ e _ => e, fun a o e => by
    unfold frzF at e
    split at e
    · exact .inr (.inr (h a ‹_›))
    · exact .inl e⟩
def WPE (X : Cx) (e : Expr) (σ : St) (H : Hp) (Q : VK) : Prop := ∀ pins s, Inv X pins σ H s → wpAny (model X.prog X.w) X.A (eval e X.env) (EP X pins σ Q) X.xe s
theorem pe_wp {X : Cx} {e : Expr} : PE X e (WPE X e) := ⟨fun pins s σ H Q I h => h pins s I⟩
theorem wpe_of {X : Cx} {e : Expr} {t : TE} {σ : St} {H : Hp} {Q : VK} (h : PE X e t) (q : t σ H Q) : WPE X e σ H Q := fun pins s I => h.run pins s σ H Q I q
theorem WPE.mono {X : Cx} {e : Expr} {σ : St} {H : Hp} {Q Q' : VK} (h : WPE X e σ H Q) (k : ∀ v H', Q v H' → Q' v H') : WPE X e σ H Q' := fun pins s I =>
  thn (h pins s I) fun u s' ⟨v, H', I', r, q⟩ => ⟨v, H', I', r, k v H' q⟩
def WPT (X : Cx) (e : Expr) (σ : St) (H : Hp) (Q : Bool → Hp → Prop) : Prop := ∀ pins s, Inv X pins σ H s → wpAny (model X.prog X.w) X.A (isTrue e X.env (eval e X.env)) (TP X pins σ Q) X.xe s
theorem pt_wp {X : Cx} {e : Expr} : PT X e (WPT X e) := ⟨fun pins s σ H Q I h => h pins s I⟩
theorem wpt_of {X : Cx} {e : Expr} {t : TT} {σ : St} {H : Hp} {Q : Bool → Hp → Prop} (h : PT X e t) (q : t σ H Q) : WPT X e σ H Q := fun pins s I => h.run pins s σ H Q I q
def WPS (X : Cx) (st : Stmt) (D : Ends) (σ : St) (H : Hp) : Prop := ∀ pins s, Inv X pins σ H s → wpAny (model X.prog X.w) X.A (exec st X.env) (SP X pins D) X.xe s
theorem ps_wp {X : Cx} {st : Stmt} : PS X st (WPS X st) := ⟨fun pins s σ H D I h => h pins s I⟩
theorem wps_of {X : Cx} {st : Stmt} {t : TS} {σ : St} {H : Hp} {D : Ends} (h : PS X st t) (q : t D σ H) : WPS X st D σ H := fun pins s I => h.run pins s σ H D I q
def WPSs (X : Cx) (st : List Stmt) (D : Ends) (σ : St) (H : Hp) : Prop := ∀ pins s, Inv X pins σ H s → wpAny (model X.prog X.w) X.A (execs st X.env) (SP X pins D) X.xe s
theorem pss_wp {X : Cx} {st : List Stmt} : PSs X st (WPSs X st) := ⟨fun pins s σ H D I h => h pins s I⟩
theorem wpss_of {X : Cx} {st : List Stmt} {t : TS} {σ : St} {H : Hp} {D : Ends} (h : PSs X st t) (q : t D σ H) : WPSs X st D σ H := fun pins s I => h.run pins s σ H D I q
/-- a row of expressions, from the left -/
def WPEs (X : Cx) : List Expr → TA
  | [], _, H, Q => Q [] H
  | e :: es, σ, H, Q => WPE X e σ H fun v H1 => WPEs X es σ H1 fun vs H2 => Q (v :: vs) H2
theorem WPEs.mono {X : Cx} : ∀ {es : List Expr} {σ : St} {H : Hp} {Q Q' : List V → Hp → Prop}, WPEs X es σ H Q → (∀ vs H', Q vs H' → Q' vs H') → WPEs X es σ H Q'
  | [], _, _, _, _, h, k => k _ _ h
  | e :: es, σ, H, Q, Q', h, k => WPE.mono h fun v H1 q => WPEs.mono q fun vs H2 z => k _ _ z
/-- a value has come: o, as v -/
def EPost (g : Gl) (F H : Hp) (σ : St) (fp : Nat → List Addr) (ρ' : Ev) (o : O) (Q : VK) : Prop :=
  ∀ v F' H' fp' fr, Step F H (Own fp) F' H' → SOK g F' H' σ ρ' fp' → (∀ a, Own fp' a → Own fp a ∨ H a = none) → RepO g F' H' o v fr → fr.Nodup → (∀ a ∈ fr, (Own fp a ∨ H a = none) ∧ ¬ Own fp' a) → Q v H'
/-- an exception -/
def RepX (g : Gl) (F : Hp) (x : Ex) (cls : Value) (d : Option Addr) : Prop :=
  ∃ C vs, cls = .ref C ∧ g.mg x.c = some (.ref C) ∧ XDict F x.ns d vs ∧ x.ns.length = x.ds.length ∧ RepDs g F x.ds vs
def XPost (g : Gl) (F H : Hp) (σ : St) (fp : Nat → List Addr) (ρ' : Ev) (x : Ex) (W : WX) : Prop :=
  ∀ C d F' H' fp', Step F H (Own fp) F' H' → SOK g F' H' σ ρ' fp' → (∀ a, Own fp' a → Own fp a ∨ H a = none) → RepX g F' x C d → W C d σ H'
def RPost (g : Gl) (F H : Hp) (σ : St) (fp : Nat → List Addr) (W : WX) (Q : VK) (ρ' : Ev) : R O → Prop
  | .ok o => EPost g F H σ fp ρ' o Q
  | .ex x => XPost g F H σ fp ρ' x W
def SoundE (X : Cx) (W : WX) (x : Expr) (ev : Ev → Res O) : Prop := ∀ σ ρ F H fp r ρ' Q, SOK (gl X) F H σ ρ fp → ev ρ = some (r, ρ') → RPost (gl X) F H σ fp W Q ρ' r → WPE X x σ H Q
/-- an exception behind a step -/
theorem XPost.after {g : Gl} {F H F1 H1 : Hp} {σ : St} {fp fp1 : Nat → List Addr} {ρ' : Ev} {x : Ex} {W : WX} (s : Step F H (Own fp) F1 H1) (n : ∀ a, Own fp1 a → Own fp a ∨ H a = none) (h : XPost g F H σ fp ρ' x W) : XPost g F1 H1 σ fp1 ρ' x W :=
  fun C d F' H' fp' s' S n' r => h C d F' H' fp' (s.trans s' n) S (own_trans s n n') r
def OpdRep (g : Gl) (F : Hp) (σ : St) : Opd → V → Prop
  | .sl i, v => σ[i]? = some (some v)
  | .val d, v => RepD g F d v
def OpdsRep (g : Gl) (F : Hp) (σ : St) : List Opd → List V → Prop
  | [], vs => vs = []
  | q :: qs, vs => ∃ v r, vs = v :: r ∧ OpdRep g F σ q v ∧ OpdsRep g F σ qs r
def OsPost (g : Gl) (F H : Hp) (σ : St) (fp : Nat → List Addr) (ρ' : Ev) (qs : List Opd) (Q : List V → Hp → Prop) : Prop :=
  ∀ vs F' H' fp', Step F H (Own fp) F' H' → SOK g F' H' σ ρ' fp' → (∀ a, Own fp' a → Own fp a ∨ H a = none) → OpdsRep g F' σ qs vs → Q vs H'
def ROs (g : Gl) (F H : Hp) (σ : St) (fp : Nat → List Addr) (W : WX) (Q : List V → Hp → Prop) (ρ' : Ev) : R (List Opd) → Prop
  | .ok qs => OsPost g F H σ fp ρ' qs Q
  | .ex x => XPost g F H σ fp ρ' x W
def SoundOs (X : Cx) (W : WX) (xs : List Expr) (ev : Ev → Res (List Opd)) : Prop := ∀ σ ρ F H fp r ρ' Q, SOK (gl X) F H σ ρ fp → ev ρ = some (r, ρ') → ROs (gl X) F H σ fp W Q ρ' r → WPEs X xs σ H Q
theorem OpdRep.mono {g : Gl} {F F' : Hp} {σ : St} (s : Sub F F') : ∀ {q : Opd} {v : V}, OpdRep g F σ q v → OpdRep g F' σ q v
  | .sl i, v, h => h
  | .val d, v, h => RepD.mono s h
/-- operands as they are seen -/
def RepVs (g : Gl) (F H : Hp) : List O → List V → Prop
  | [], vs => vs = []
  | o :: os, vs => ∃ v r as, vs = v :: r ∧ RepO g F H o v as ∧ RepVs g F H os r
theorem vws_rep {g : Gl} {F H : Hp} {σ : St} {ρ : Ev} {fp : Nat → List Addr} (S : SOK g F H σ ρ fp) : ∀ {qs : List Opd} {vs : List V} {os : List O}, OpdsRep g F σ qs vs → vws ρ qs = some os → RepVs g F H os vs
  | [], vs, os, h, e => by
    have e2 : os = [] := (Option.some.inj e).symm
    subst e2
    exact h
  | q :: qs, vs, os, h, e => by
    obtain ⟨v, r, e1, h1, h2⟩ := h
    unfold vws at e
    cases e3 : q.vw ρ with
    | none => rw [e3] at e; cases e
    | some o =>
      cases e4 : vws ρ qs with
      | none => rw [e3, e4] at e; cases e
      | some os' =>
        rw [e3, e4] at e
        have e5 : o :: os' = os := Option.some.inj e
        subst e5
        refine ⟨v, r, ?_⟩
        cases q with
        | sl i =>
          have e6 : ρ[i]? = some (some o) := by
            unfold Opd.vw at e3
            dsimp only at e3
            cases z : ρ[i]? with
            | none => rw [z] at e3; cases e3
            | some w =>
              cases w with
              | none => rw [z] at e3; cases e3
              | some w => rw [z] at e3; rw [Option.some.inj e3]
          obtain ⟨v', h3, h4⟩ := S.at_ i o e6
          have e7 : σ[i]? = some (some v) := h1
          rw [e7] at h3
          cases h3
          exact ⟨_, e1, h4, vws_rep S h2 e4⟩
        | val d =>
          have e6 : O.p d = o := Option.some.inj e3
          subst e6
          refine ⟨[], e1, ?_, vws_rep S h2 e4⟩
          unfold RepO
          exact ⟨h1, rfl⟩
theorem soundOs_nil {X : Cx} {W : WX} {ev : Ev → Res (List Opd)} (hev : ∀ ρ, ev ρ = some (.ok [], ρ)) : SoundOs X W [] ev := fun σ ρ F H fp r ρ' Q S e h => by
  rw [hev ρ] at e
  cases e
  exact h [] F H fp (Step.refl S.sub) S (fun a q => .inl q) rfl
/-- a slot, seen behind all -/
theorem soundOs_var {X : Cx} {W : WX} {i : Nat} {x : Expr} {xs : List Expr} {ev ev2 : Ev → Res (List Opd)} (hx : PE X x (tVar i)) (h2 : SoundOs X W xs ev2)
    (hev : ∀ ρ r, ev ρ = some r → (∃ o, ρ[i]? = some (some o)) ∧ ((∃ qs, ev2 ρ = some (.ok qs, r.2) ∧ r.1 = .ok (.sl i :: qs)) ∨ ∃ z, ev2 ρ = some (.ex z, r.2) ∧ r.1 = .ex z)) : SoundOs X W (x :: xs) ev := fun σ ρ F H fp r ρ' Q S e h => by
  obtain ⟨⟨o, ho⟩, q⟩ := hev ρ _ e
  obtain ⟨v, hv, rv⟩ := S.at_ i o ho
  refine wpe_of hx ⟨v, hv, ?_⟩
  rcases q with ⟨qs, e2, e3⟩ | ⟨z, e2, e3⟩
  · have e3 : r = .ok (.sl i :: qs) := e3
    subst e3
    exact h2 σ ρ F H fp _ ρ' _ S e2 fun vs F' H' fp' s S' n rs => h (v :: vs) F' H' fp' s S' n ⟨v, vs, rfl, hv, rs⟩
  · have e3 : r = .ex z := e3
    subst e3
    exact h2 σ ρ F H fp _ ρ' _ S e2 h
theorem soundOs_cons {X : Cx} {W : WX} {x : Expr} {xs : List Expr} {ev : Ev → Res (List Opd)} {ev1 : Ev → Res O} {ev2 : Ev → Res (List Opd)} (h1 : SoundE X W x ev1) (h2 : SoundOs X W xs ev2)
    (hev : ∀ ρ r, ev ρ = some r → (∃ o ρ1, ev1 ρ = some (.ok o, ρ1) ∧ ((∃ qs, ev2 ρ1 = some (.ok qs, r.2) ∧ r.1 = .ok (.val o.frz :: qs)) ∨ ∃ z, ev2 ρ1 = some (.ex z, r.2) ∧ r.1 = .ex z)) ∨ ∃ z, ev1 ρ = some (.ex z, r.2) ∧ r.1 = .ex z) : SoundOs X W (x :: xs) ev := fun σ ρ F H fp r ρ' Q S e h => by
  rcases hev ρ _ e with ⟨o, ρ1, e1, q⟩ | ⟨z, e1, e3⟩
  · refine h1 σ ρ F H fp _ ρ1 _ S e1 fun v F1 H1 fp1 fr s1 S1 n1 rv nd nf => ?_
    -- the value is frozen
    have sF : Step F1 H1 (fun a => a ∈ fr) (frzF F1 H1 fr) H1 := Step.freeze S1.sub (fun a ha => (rv.own a ha).1) fun a ha => ha
    have S1' : SOK (gl X) (frzF F1 H1 fr) H1 σ ρ1 fp1 := S1.stay sF fun a ha hf => (nf a hf).2 ha
    have s1' : Step F H (Own fp) (frzF F1 H1 fr) H1 := s1.trans sF fun a ha => (nf a ha).1
    have rd := rv.freeze S1.sub
    rcases q with ⟨qs, e2, e3⟩ | ⟨z, e2, e3⟩
    · have e3 : r = .ok (.val o.frz :: qs) := e3
      subst e3
      exact h2 σ ρ1 _ H1 fp1 _ ρ' _ S1' e2 fun vs F' H' fp' s S' n rs => h (v :: vs) F' H' fp' (s1'.trans s n1) S' (own_trans s1' n1 n) ⟨v, vs, rfl, rd.mono s.mono, rs⟩
    · have e3 : r = .ex z := e3
      subst e3
      exact h2 σ ρ1 _ H1 fp1 _ ρ' _ S1' e2 (XPost.after s1' n1 h)
  · have e3 : r = .ex z := e3
    subst e3
    exact h1 σ ρ F H fp _ ρ' _ S e1 h
def PP (g : Gl) (F H : Hp) (o : O) (Q : VK) : Prop :=
  ∀ v F' H' fr, Sub F F' → Sub F' H' → (∀ a u, H a = some u → H' a = some u) → (∀ a u, F' a = some u → F a = some u ∨ H a = none) → RepO g F' H' o v fr → fr.Nodup → (∀ a ∈ fr, H a = none) → Q v H'
theorem EPost.pp {g : Gl} {F H F1 H1 : Hp} {σ : St} {fp fp1 : Nat → List Addr} {ρ' : Ev} {o : O} {Q : VK} (h : EPost g F H σ fp ρ' o Q) (s : Step F H (Own fp) F1 H1) (S : SOK g F1 H1 σ ρ' fp1) (n : ∀ a, Own fp1 a → Own fp a ∨ H a = none) : PP g F1 H1 o Q := fun v F' H' fr m sb k nw r nd nf => by
  have s2 : Step F1 H1 (fun _ => False) F' H' := ⟨m, sb, fun a u e _ => k a u e, fun a u e => (nw a u e).elim .inl fun z => .inr (.inl z)⟩
  have S2 : SOK g F' H' σ ρ' fp1 := S.stay s2 fun _ _ z => z
  have s3 : Step F H (Own fp) F' H' := s.trans s2 fun c z => False.elim z
  refine h v F' H' fp1 fr s3 S2 n r nd fun a ha => ⟨?_, fun q => ?_⟩
  · by_cases hc : Own fp a
    · exact .inl hc
    · rcases none_or (H := H) a with z | ⟨u, z⟩
      · exact .inr z
      · have q := nf a ha
        rw [s.keep a u z hc] at q
        cases q
  · obtain ⟨_, u, hu⟩ := S.own q
    rw [nf a ha] at hu
    cases hu
theorem PP.sc {g : Gl} {F H : Hp} {d : D} {Q : VK} (h : PP g F H (.p d) Q) (s : Sub F H) {v : V} (r : RepD g F d v) : Q v H :=
  h v F H [] (Sub.refl F) s (fun _ _ e => e) (fun _ _ e => .inl e) (by unfold RepO; exact ⟨r, rfl⟩) List.nodup_nil (by simp)
theorem upd_sub {F H : Hp} {p : Addr} {u : HO} (s : Sub F H) (n : H p = none) : Sub F (upd H p u) := fun a o e => by
  rw [upd_ne (fun z => by subst z; rw [s _ _ e] at n; cases n)]
  exact s a o e
theorem upd_keep {H : Hp} {p : Addr} {u : HO} (n : H p = none) : ∀ a o, H a = some o → upd H p u a = some o := fun a o e => by
  rw [upd_ne (ne_of_none e n)]
  exact e
theorem upd_sub2 {F H : Hp} {p : Addr} {u : HO} (s : Sub F H) (n : H p = none) : Sub (upd F p u) (upd H p u) := fun a o e => by
  by_cases h : a = p
  · subst h
    rw [upd_same] at e ⊢
    exact e
  · rw [upd_ne h] at e ⊢
    exact s a o e
theorem sub_none {F H : Hp} {p : Addr} (s : Sub F H) (n : H p = none) : F p = none := by
  cases e : F p with
  | none => rfl
  | some o => rw [s _ _ e] at n; cases n
theorem PP.newLst {g : Gl} {F H : Hp} {ds : List D} {Q : VK} (h : PP g F H (.lst ds) Q) (s : Sub F H) {vs : List V} (r : RepDs g F ds vs) {p : Addr} (n : H p = none) : Q (.ref p) (upd H p (.lst vs)) :=
  h (.ref p) F (upd H p (.lst vs)) [p] (Sub.refl F) (upd_sub s n) (upd_keep n) (fun _ _ e => .inl e) (by unfold RepO; exact ⟨p, vs, rfl, rfl, sub_none s n, upd_same, r⟩) (by simp) (fun a ha => by
    have e : a = p := by simpa using ha
    rw [e]; exact n)
theorem PP.newTup {g : Gl} {F H : Hp} {ds : List D} {Q : VK} (h : PP g F H (.p (.tup ds)) Q) (s : Sub F H) {vs : List V} (r : RepDs g F ds vs) {p : Addr} (n : H p = none) : Q (.ref p) (upd H p (.tup vs)) :=
  h (.ref p) (upd F p (.tup vs)) (upd H p (.tup vs)) [] (upd_sub (Sub.refl F) (sub_none s n)) (upd_sub2 s n) (upd_keep n) (fun a u e => by
    by_cases q : a = p
    · subst q
      exact .inr n
    · rw [upd_ne q] at e
      exact .inl e) (by
    unfold RepO RepD
    exact ⟨⟨p, vs, rfl, .inl (.inl upd_same), r.mono (upd_sub (Sub.refl F) (sub_none s n))⟩, rfl⟩) List.nodup_nil (by simp)
end DV
namespace DV
open PySem PySem.Spec PyProof.Rows L2
theorem RepVs.one {g : Gl} {F H : Hp} {os : List O} {x : V} (h : RepVs g F H os [x]) : ∃ o as, os = [o] ∧ RepO g F H o x as := by
  cases os with
  | nil => exact absurd h (by unfold RepVs; simp)
  | cons o os =>
    unfold RepVs at h
    obtain ⟨v, r, as, e, h1, h2⟩ := h
    obtain ⟨rfl, rfl⟩ := List.cons.inj e
    cases os with
    | nil => exact ⟨o, as, rfl, h1⟩
    | cons o2 os =>
      unfold RepVs at h2
      obtain ⟨_, _, _, e2, _⟩ := h2
      cases e2
theorem RepVs.two {g : Gl} {F H : Hp} {os : List O} {x y : V} (h : RepVs g F H os [x, y]) : ∃ o p as bs, os = [o, p] ∧ RepO g F H o x as ∧ RepO g F H p y bs := by
  cases os with
  | nil => exact absurd h (by unfold RepVs; simp)
  | cons o os =>
    unfold RepVs at h
    obtain ⟨v, r, as, e, h1, h2⟩ := h
    obtain ⟨rfl, rfl⟩ := List.cons.inj e
    obtain ⟨p, bs, e2, h3⟩ := RepVs.one h2
    subst e2
    exact ⟨o, p, as, bs, rfl, h1, h3⟩
theorem RepVs.three {g : Gl} {F H : Hp} {os : List O} {x y z : V} (h : RepVs g F H os [x, y, z]) : ∃ o p q as bs cs, os = [o, p, q] ∧ RepO g F H o x as ∧ RepO g F H p y bs ∧ RepO g F H q z cs := by
  cases os with
  | nil => exact absurd h (by unfold RepVs; simp)
  | cons o os =>
    unfold RepVs at h
    obtain ⟨v, r, as, e, h1, h2⟩ := h
    obtain ⟨rfl, rfl⟩ := List.cons.inj e
    obtain ⟨p, q, bs, cs, e2, h3, h4⟩ := RepVs.two h2
    subst e2
    exact ⟨o, p, q, as, bs, cs, rfl, h1, h3, h4⟩
theorem RepDs.length {g : Gl} {F : Hp} : ∀ {ds : List D} {vs : List V}, RepDs g F ds vs → ds.length = vs.length
  | [], vs, h => by unfold RepDs at h; rw [h]; rfl
  | d :: ds, vs, h => by
    unfold RepDs at h
    obtain ⟨v, r, e, _, h2⟩ := h
    rw [e, List.length_cons, List.length_cons, RepDs.length h2]
theorem RepDs.get {g : Gl} {F : Hp} : ∀ {ds : List D} {vs : List V} {i : Nat} {d : D}, RepDs g F ds vs → ds[i]? = some d → ∃ v, vs[i]? = some v ∧ RepD g F d v
  | [], vs, i, d, h, e => by simp at e
  | c :: ds, vs, i, d, h, e => by
    unfold RepDs at h
    obtain ⟨v, r, rfl, h1, h2⟩ := h
    cases i with
    | zero =>
      have : c = d := by simpa using e
      subst this
      exact ⟨v, rfl, h1⟩
    | succ i =>
      obtain ⟨w, h3, h4⟩ := RepDs.get (i := i) h2 (by simpa using e)
      exact ⟨w, by simpa using h3, h4⟩
theorem RepDs.atI {g : Gl} {F : Hp} {ds : List D} {vs : List V} {i : Int} {d : D} (h : RepDs g F ds vs) (e : L2.atI ds i = some d) : ∃ v, L2.atI vs i = some v ∧ RepD g F d v := by
  unfold L2.atI at e ⊢
  rw [h.length] at e
  cases q : L2.ixN vs.length i with
  | none => rw [q] at e; cases e
  | some j =>
    rw [q] at e
    exact RepDs.get h e
theorem RepDs.append {g : Gl} {F : Hp} : ∀ {ds es : List D} {vs ws : List V}, RepDs g F ds vs → RepDs g F es ws → RepDs g F (ds ++ es) (vs ++ ws)
  | [], es, vs, ws, h, h' => by unfold RepDs at h; rw [h]; exact h'
  | d :: ds, es, vs, ws, h, h' => by
    unfold RepDs at h
    obtain ⟨v, r, rfl, h1, h2⟩ := h
    show RepDs g F (d :: (ds ++ es)) _
    unfold RepDs
    exact ⟨v, r ++ ws, rfl, h1, RepDs.append h2 h'⟩
theorem RepDs.take {g : Gl} {F : Hp} : ∀ {ds : List D} {vs : List V} (n : Nat), RepDs g F ds vs → RepDs g F (ds.take n) (vs.take n)
  | [], vs, n, h => by
    unfold RepDs at h
    rw [h]
    simp [RepDs]
  | d :: ds, vs, 0, h => by simp [RepDs]
  | d :: ds, vs, n + 1, h => by
    unfold RepDs at h
    obtain ⟨v, r, rfl, h1, h2⟩ := h
    show RepDs g F (d :: ds.take n) (v :: r.take n)
    unfold RepDs
    exact ⟨v, _, rfl, h1, RepDs.take n h2⟩
theorem RepDs.drop {g : Gl} {F : Hp} : ∀ {ds : List D} {vs : List V} (n : Nat), RepDs g F ds vs → RepDs g F (ds.drop n) (vs.drop n)
  | [], vs, n, h => by
    unfold RepDs at h
    rw [h]
    simp [RepDs]
  | d :: ds, vs, 0, h => h
  | d :: ds, vs, n + 1, h => by
    unfold RepDs at h
    obtain ⟨v, r, rfl, h1, h2⟩ := h
    exact RepDs.drop n h2
theorem RepDs.cut {g : Gl} {F : Hp} {ds : List D} {vs : List V} (h : RepDs g F ds vs) (lo hi : Option Int) : RepDs g F (cutD ds lo hi) (cutV vs lo hi) := by
  unfold cutD cutV
  rw [h.length]
  exact (h.drop _).take _
theorem RepO.now {g : Gl} {F H : Hp} {o : O} {v : V} {as : List Addr} (s : Sub F H) (r : RepO g F H o v as) : RepD g H o.frz v := r.view s fun _ _ _ e => e
theorem repO_p {g : Gl} {F H : Hp} {d : D} {v : V} {as : List Addr} (r : RepO g F H (.p d) v as) : RepD g F d v := by
  unfold RepO at r
  exact r.1
theorem RepD.int' {g : Gl} {F : Hp} {i : Int} {v : V} (r : RepD g F (.int i) v) : v = .int i := by
  unfold RepD at r
  exact r
theorem RepD.bl' {g : Gl} {F : Hp} {i : Bool} {v : V} (r : RepD g F (.bl i) v) : v = .bl i := by
  unfold RepD at r
  exact r
theorem RepD.str' {g : Gl} {F : Hp} {i : Str} {v : V} (r : RepD g F (.str i) v) : v = .str i := by
  unfold RepD at r
  exact r
theorem RepD.non' {g : Gl} {F : Hp} {v : V} (r : RepD g F .non v) : v = .non := by
  unfold RepD at r
  exact r
theorem repD_int {g : Gl} {F : Hp} {i : Int} : RepD g F (.int i) (.int i) := by unfold RepD; rfl
theorem repD_bl {g : Gl} {F : Hp} {i : Bool} : RepD g F (.bl i) (.bl i) := by unfold RepD; rfl
theorem repD_str {g : Gl} {F : Hp} {i : Str} : RepD g F (.str i) (.str i) := by unfold RepD; rfl
theorem repD_non {g : Gl} {F : Hp} : RepD g F .non .non := by unfold RepD; rfl
theorem items_rep {g : Gl} {F H : Hp} {o : O} {v : V} {as : List Addr} {ds : List D} (s : Sub F H) (r : RepO g F H o v as) (e : o.items = some ds) : ∃ a vs, v = .ref a ∧ (SqL g.K H a vs ∨ SqT g.K H a vs) ∧ RepDs g F ds vs := by
  cases o with
  | p d =>
    have q := repO_p r
    cases d with
    | lst ds' =>
      cases e
      unfold RepD at q
      obtain ⟨a, vs, e1, e2, e3⟩ := q
      exact ⟨a, vs, e1, .inl (s.sqL e2), e3⟩
    | tup ds' =>
      cases e
      unfold RepD at q
      obtain ⟨a, vs, e1, e2, e3⟩ := q
      exact ⟨a, vs, e1, .inr (s.sqT e2), e3⟩
    | _ => cases e
  | lst ds' =>
    cases e
    unfold RepO at r
    obtain ⟨a, vs, e1, _, _, e2, e3⟩ := r
    exact ⟨a, vs, e1, .inl (.inl (.inl e2)), e3⟩
  | _ => cases e
/-- a list -/
def O.lsts : O → Option (List D)
  | .p (.lst ds) => some ds
  | .lst ds => some ds
  | _ => none
theorem lsts_rep {g : Gl} {F H : Hp} {o : O} {v : V} {as : List Addr} {ds : List D} (s : Sub F H) (r : RepO g F H o v as) (e : o.lsts = some ds) : ∃ a vs, v = .ref a ∧ SqL g.K H a vs ∧ RepDs g F ds vs := by
  cases o with
  | p d =>
    have q := repO_p r
    cases d with
    | lst ds' =>
      cases e
      unfold RepD at q
      obtain ⟨a, vs, e1, e2, e3⟩ := q
      exact ⟨a, vs, e1, s.sqL e2, e3⟩
    | _ => cases e
  | lst ds' =>
    cases e
    unfold RepO at r
    obtain ⟨a, vs, e1, _, _, e2, e3⟩ := r
    exact ⟨a, vs, e1, .inl (.inl e2), e3⟩
  | _ => cases e
theorem repD_tup {g : Gl} {F : Hp} {ds : List D} {v : V} (q : RepD g F (.tup ds) v) : ∃ a vs, v = .ref a ∧ SqT g.K F a vs ∧ RepDs g F ds vs := by
  unfold RepD at q
  exact q
mutual
theorem dp_of {g : Gl} {H : Hp} : ∀ {d : D} {v : V}, RepD g H d v → d.dep < 100 → Dp g.K H v d.py
  | .non, v, r, h => by rw [r.non']; exact .non
  | .bl b, v, r, h => by rw [r.bl']; exact .bl b
  | .int i, v, r, h => by rw [r.int']; exact .int i
  | .str i, v, r, h => by rw [r.str']; exact .str i
  | .tup ds, v, r, h => by
    unfold RepD at r
    obtain ⟨a, vs, rfl, q, t⟩ := r
    unfold D.py
    exact .tup q (dps_of t (by unfold D.dep at h; omega))
  | .lst ds, v, r, h => by
    unfold RepD at r
    obtain ⟨a, vs, rfl, q, t⟩ := r
    unfold D.py
    exact .lst q (dps_of t (by unfold D.dep at h; omega))
  | .dct _ _, v, r, h => by unfold D.dep at h; omega
  | .ins _ _ _, v, r, h => by unfold D.dep at h; omega
  | .exc _ _ _, v, r, h => by unfold D.dep at h; omega
theorem dps_of {g : Gl} {H : Hp} : ∀ {ds : List D} {vs : List V}, RepDs g H ds vs → deps ds < 100 → DpAll g.K H vs (pys ds)
  | [], vs, r, h => by
    unfold RepDs at r
    rw [r]
    exact .nil
  | d :: ds, vs, r, h => by
    unfold RepDs at r
    obtain ⟨v, w, rfl, q, t⟩ := r
    unfold deps at h
    unfold pys
    exact .cons (dp_of q (by omega)) (dps_of t (by omega))
end
theorem pys_map (ds : List D) : pys ds = ds.map D.py := by
  induction ds with
  | nil => rfl
  | cons d ds ih => unfold pys; rw [ih]; rfl
mutual
theorem dep_py : ∀ d : D, d.py.depth ≤ d.dep
  | .non => by unfold D.py D.dep; simp [PyData.depth]
  | .bl b => by unfold D.py D.dep; simp [PyData.depth]
  | .int i => by unfold D.py D.dep; simp [PyData.depth]
  | .str i => by unfold D.py D.dep; simp [PyData.depth]
  | .tup ds => by unfold D.py D.dep; simp only [PyData.depth]; have := deps_py ds; omega
  | .lst ds => by unfold D.py D.dep; simp only [PyData.depth]; have := deps_py ds; omega
  | .dct _ _ => by unfold D.py D.dep; simp [PyData.depth]
  | .ins _ _ _ => by unfold D.py D.dep; simp [PyData.depth]
  | .exc _ _ _ => by unfold D.py D.dep; simp [PyData.depth]
theorem deps_py : ∀ ds : List D, PyData.depthAll (pys ds) ≤ deps ds
  | [] => by unfold pys deps; simp [PyData.depthAll]
  | d :: ds => by
    unfold pys deps
    simp only [PyData.depthAll]
    have := dep_py d
    have := deps_py ds
    omega
end
mutual
theorem lay_py : ∀ d : D, d.dep < 100 → d.py.canLay0 = true
  | .non, _ => by unfold D.py; simp [PyData.canLay0]
  | .bl b, _ => by unfold D.py; simp [PyData.canLay0]
  | .int i, _ => by unfold D.py; simp [PyData.canLay0]
  | .str i, h => by
    unfold D.dep at h
    unfold D.py
    simp only [PyData.canLay0]
    cases e : PyData.strOk i with
    | true => rfl
    | false => rw [e] at h; simp at h
  | .tup ds, h => by unfold D.py; unfold D.dep at h; simp only [PyData.canLay0]; exact lays_py ds (by omega)
  | .lst ds, h => by unfold D.py; unfold D.dep at h; simp only [PyData.canLay0]; exact lays_py ds (by omega)
  | .dct _ _, _ => by unfold D.py; simp [PyData.canLay0]
  | .ins _ _ _, _ => by unfold D.py; simp [PyData.canLay0]
  | .exc _ _ _, _ => by unfold D.py; simp [PyData.canLay0]
theorem lays_py : ∀ ds : List D, deps ds < 100 → PyData.canLayAll0 (pys ds) = true
  | [], _ => by unfold pys; simp [PyData.canLayAll0]
  | d :: ds, h => by
    unfold deps at h
    unfold pys
    simp only [PyData.canLayAll0, Bool.and_eq_true]
    exact ⟨lay_py d (by omega), lays_py ds (by omega)⟩
end
theorem shaped_of {d : D} (h : d.dep ≤ 64) : SeqAt.shaped d.py = true := by
  unfold SeqAt.shaped
  rw [lay_py d (by omega), Bool.true_and]
  exact decide_eq_true (Nat.le_trans (dep_py d) h)
theorem eqD_some {a b : D} {r : Bool} (h : eqD a b = some r) : a.dep ≤ 64 ∧ b.dep ≤ 64 ∧ r = PyData.eqv a.py b.py := by
  unfold eqD at h
  split at h
  · rename_i q
    exact ⟨q.1, q.2, (Option.some.inj h).symm⟩
  · cases h
theorem inD_some {a : D} : ∀ {ds : List D} {r : Bool}, inD a ds = some r → (∀ d ∈ ds, d.dep ≤ 64) ∧ a.dep ≤ 64 ∧ r = (pys ds).any fun z => PyData.eqv z a.py
  | [], r, h => by
    unfold inD at h
    split at h
    · have e : false = r := Option.some.inj h
      subst e
      refine ⟨fun _ h => absurd h (by simp), ‹_›, ?_⟩
      unfold pys
      rfl
    · cases h
  | d :: ds, r, h => by
    unfold inD at h
    cases e1 : eqD d a with
    | none => rw [e1] at h; cases h
    | some u =>
      cases e2 : inD a ds with
      | none => rw [e1, e2] at h; cases h
      | some v =>
        rw [e1, e2] at h
        have e3 : (u || v) = r := Option.some.inj h
        obtain ⟨h1, h2, h3⟩ := eqD_some e1
        obtain ⟨h4, h5, h6⟩ := inD_some e2
        refine ⟨fun c hc => ?_, h2, ?_⟩
        · rcases List.mem_cons.mp hc with z | z
          · rw [z]; exact h1
          · exact h4 c z
        · rw [← e3, h3, h6, pys_map, pys_map, List.map_cons, List.any_cons]
theorem deps_le {n : Nat} : ∀ {ds : List D}, (∀ d ∈ ds, d.dep ≤ n) → deps ds ≤ n
  | [], _ => by unfold deps; omega
  | d :: ds, h => by
    unfold deps
    have h1 := h d List.mem_cons_self
    have h2 := deps_le (ds := ds) fun c hc => h c (List.mem_cons_of_mem _ hc)
    omega
end DV
namespace DV
open PySem PySem.Spec PyProof.Rows L2
def notStar : Expr → Bool
  | .Starred _ _ => false
  | _ => true
def notSet : Expr → Bool
  | .Set _ _ _ => false
  | _ => true
def notSlice : Expr → Bool
  | .Slice _ _ _ _ => false
  | _ => true
def binOp? (p : Prim) : Option Operator := match p with
  | .add => some .Add | .sub => some .Sub | .mul => some .Mult | .fdiv => some .FloorDiv | .mod => some .Mod | .pow => some .Pow
  | .shl => some .LShift | .shr => some .RShift | .band => some .BitAnd | .bor => some .BitOr | .bxor => some .BitXor
  | _ => none
def cmpOp? (p : Prim) : Option CmpOp := match p with
  | .eq => some .Eq | .ne => some .NotEq | .lt => some .Lt | .le => some .LtE | .gt => some .Gt | .ge => some .GtE
  | .isN => some .Is | .notN => some .IsNot | .in_ => some .In | .notin => some .NotIn
  | _ => none
/-- a built-in that is called by its name -/
def biName? (p : Prim) : Option Str := match p with
  | .len => some "len" | .max1 => some "max" | .min1 => some "min" | .max2 => some "max" | .min2 => some "min" | .sum => some "sum" | .int1 => some "int" | .lst1 => some "list" | .tup1 => some "tuple"
  | .any => some "any" | .all => some "all" | .divmod => some "divmod"
  | _ => none
def glName (sc : Scope) (x : Str) : Bool := decide (sc.names.lookup x = some .globalImplicit)
/-- the operands of e, if it is p's -/
def opnds (p : Prim) (sc : Scope) (e : Expr) : Option (List Expr) :=
  match e with
  | .BinOp a op b _ => if binOp? p = some op then some [a, b] else none
  | .UnaryOp .USub a _ => if p = .neg then some [a] else none
  | .Compare a [op] [b] _ => if cmpOp? p = some op && notSet b then
      (if p = .isN ∨ p = .notN then (match b with
        | .Constant .none _ _ => some [a]
        | _ => none) else some [a, b]) else none
  | .Subscript a (.Slice (some l) (some h) none _) _ => if p = .sl true true then some [a, l, h] else none
  | .Subscript a (.Slice (some l) none none _) _ => if p = .sl true false then some [a, l] else none
  | .Subscript a (.Slice none (some h) none _) _ => if p = .sl false true then some [a, h] else none
  | .Subscript a b _ => if p = .idx && notSlice b then some [a, b] else none
  | .Call (.Name x _) [a] [] _ => if biName? p = some x && (glName sc x && notStar a) then some [a] else none
  | .Call (.Name x _) [a, b] [] _ => if biName? p = some x && (glName sc x && (notStar a && notStar b)) then some [a, b] else none
  | _ => none
theorem starEach_cons {e : Expr} {es : List Expr} {env : Env} (h : notStar e = true) : starEach (e :: es) env = (false, eval e env) :: starEach es env := by
  cases e <;> first | rfl | cases h
theorem plainIx_of {b : Expr} (h : notSlice b = true) : PlainIx b := by
  cases b <;> first | exact fun _ _ => rfl | cases h
theorem marks_of {op : CmpOp} {b : Expr} (h : notSet b = true) : behindInMarks op b = false := by
  cases b <;> first | rfl | cases h
theorem pa_wp1 {X : Cx} {a : Expr} (h : notStar a = true) : PA X [a] (tCons (WPE X a) tNil) := pa_cons pe_wp pa_nil (starEach_cons h)
theorem pa_wp2 {X : Cx} {a b : Expr} (h : notStar a = true) (h2 : notStar b = true) : PA X [a, b] (tCons (WPE X a) (tCons (WPE X b) tNil)) := pa_cons pe_wp (pa_cons pe_wp pa_nil (starEach_cons h2)) (starEach_cons h)
/-- what is wanted at a primitive's operands -/
def Want (X : Cx) (p : Prim) (Q : VK) (vs : List V) (H : Hp) : Prop := ∃ F os o, Sub F H ∧ RepVs (gl X) F H os vs ∧ pev p os = some o ∧ PP (gl X) F H o Q
def PrimOk (X : Cx) (p : Prim) : Prop := ∀ {x : Expr} {xs : List Expr} {σ : St} {H : Hp} {Q : VK}, opnds p X.env.scope x = some xs → WPEs X xs σ H (Want X p Q) → WPE X x σ H Q
def WantT (X : Cx) (p : Prim) (Q : Bool → Hp → Prop) (vs : List V) (H : Hp) : Prop := Want X p (fun v H' => ∃ k, v = .bl k ∧ Q k H') vs H
def PrimOkT (X : Cx) (p : Prim) : Prop := ∀ {x : Expr} {xs : List Expr} {σ : St} {H : Hp} {Q : Bool → Hp → Prop}, opnds p X.env.scope x = some xs → WPEs X xs σ H (WantT X p Q) → WPT X x σ H Q
structure CmpOk (X : Cx) (p : Prim) : Prop where
  e : PrimOk X p
  t : PrimOkT X p
/-- the built-ins' names stand for themselves -/
def biNames : List Str := ["len", "max", "min", "sum", "int", "list", "tuple", "sorted", "repr", "str", "any", "all", "divmod", "range", "zip", "enumerate", "reversed", "isinstance", "set", "bool", "dict"]
structure XOK (X : Cx) : Prop where
  nd : X.N.Nodup
  un : X.A.units + 200 < cLine
  bi : ∀ x ∈ biNames, X.mg x = none
theorem XOK.u64 {X : Cx} (B : XOK X) : X.A.units + 64 < cLine := by have := B.un; omega
/-- the primitives that go through things -/
def ncalm : Prim → Bool
  | .max1 | .min1 | .max2 | .min2 | .sum | .any | .all => true
  | _ => false
theorem opnds_bin {p : Prim} {op : Operator} {sc : Scope} {x : Expr} {xs : List Expr} (hp : binOp? p = some op) (e : opnds p sc x = some xs) : ∃ a b pos, x = .BinOp a op b pos ∧ xs = [a, b] := by
  unfold opnds at e
  split at e <;> (try (simp only [hp] at e)) <;> (try (cases p <;> simp [binOp?] at hp <;> simp_all [cmpOp?, biName?] <;> done))
  all_goals (try (rename_i a op' b pos; split at e; (rename_i q; cases q; cases e; exact ⟨_, _, _, rfl, rfl⟩); cases e))
  all_goals (cases p <;> simp [binOp?] at hp <;> simp_all [cmpOp?, biName?])
theorem opnds_cmp {p : Prim} {op : CmpOp} {sc : Scope} {x : Expr} {xs : List Expr} (hp : cmpOp? p = some op) (hn : p ≠ .isN) (hn2 : p ≠ .notN) (e : opnds p sc x = some xs) : ∃ a b pos, x = .Compare a [op] [b] pos ∧ notSet b = true ∧ xs = [a, b] := by
  unfold opnds at e
  split at e <;> (try (simp only [hp] at e)) <;> (try (cases p <;> simp [cmpOp?] at hp <;> simp_all [binOp?, biName?] <;> done))
  rename_i a op' b pos
  split at e
  · rename_i q
    simp only [Bool.and_eq_true, decide_eq_true_eq] at q
    obtain ⟨q1, q2⟩ := q
    cases q1
    rw [if_neg (by simp [hn, hn2])] at e
    cases e
    exact ⟨_, _, _, rfl, q2, rfl⟩
  · cases e
theorem opnds_isN {p : Prim} {op : CmpOp} {sc : Scope} {x : Expr} {xs : List Expr} (hp : cmpOp? p = some op) (hn : p = .isN ∨ p = .notN) (e : opnds p sc x = some xs) : ∃ a k po pos, x = .Compare a [op] [.Constant .none k po] pos ∧ xs = [a] := by
  unfold opnds at e
  split at e <;> (try (simp only [hp] at e)) <;> (try (rcases hn with rfl | rfl <;> simp_all [binOp?, biName?] <;> done))
  rename_i a op' b pos
  split at e
  · rename_i q
    simp only [Bool.and_eq_true, decide_eq_true_eq] at q
    obtain ⟨q1, q2⟩ := q
    cases q1
    try rw [if_pos hn] at e
    split at e
    · cases e
      exact ⟨_, _, _, _, rfl, rfl⟩
    · cases e
  · cases e
theorem opnds_neg {sc : Scope} {x : Expr} {xs : List Expr} (e : opnds .neg sc x = some xs) : ∃ a pos, x = .UnaryOp .USub a pos ∧ xs = [a] := by
  unfold opnds at e
  split at e <;> (try (simp [binOp?, cmpOp?, biName?] at e; done))
  rw [if_pos rfl] at e
  cases e
  exact ⟨_, _, rfl, rfl⟩
theorem opnds_idx {sc : Scope} {x : Expr} {xs : List Expr} (e : opnds .idx sc x = some xs) : ∃ a b pos, x = .Subscript a b pos ∧ notSlice b = true ∧ xs = [a, b] := by
  unfold opnds at e
  split at e <;> (try (simp [binOp?, cmpOp?, biName?] at e; done))
  split at e
  · rename_i q
    simp only [Bool.and_eq_true, decide_eq_true_eq] at q
    cases e
    exact ⟨_, _, _, rfl, q.2, rfl⟩
  · cases e
theorem opnds_sl {lo hi : Bool} {sc : Scope} {x : Expr} {xs : List Expr} (e : opnds (.sl lo hi) sc x = some xs) :
    (lo = true ∧ hi = true ∧ ∃ a l h p2 pos, x = .Subscript a (.Slice (some l) (some h) none p2) pos ∧ xs = [a, l, h]) ∨ (lo = true ∧ hi = false ∧ ∃ a l p2 pos, x = .Subscript a (.Slice (some l) none none p2) pos ∧ xs = [a, l]) ∨
    (lo = false ∧ hi = true ∧ ∃ a h p2 pos, x = .Subscript a (.Slice none (some h) none p2) pos ∧ xs = [a, h]) := by
  unfold opnds at e
  split at e <;> (try (simp [binOp?, cmpOp?, biName?] at e; done))
  · split at e
    · rename_i q
      cases q
      cases e
      exact .inl ⟨rfl, rfl, _, _, _, _, _, rfl, rfl⟩
    · cases e
  · split at e
    · rename_i q
      cases q
      cases e
      exact .inr (.inl ⟨rfl, rfl, _, _, _, _, rfl, rfl⟩)
    · cases e
  · split at e
    · rename_i q
      cases q
      cases e
      exact .inr (.inr ⟨rfl, rfl, _, _, _, _, rfl, rfl⟩)
    · cases e
theorem opnds_call {p : Prim} {n : Str} {sc : Scope} {x : Expr} {xs : List Expr} (hp : biName? p = some n) (e : opnds p sc x = some xs) :
    (∃ a po pos, x = .Call (.Name n po) [a] [] pos ∧ glName sc n = true ∧ notStar a = true ∧ xs = [a]) ∨ (∃ a b po pos, x = .Call (.Name n po) [a, b] [] pos ∧ glName sc n = true ∧ notStar a = true ∧ notStar b = true ∧ xs = [a, b]) := by
  unfold opnds at e
  split at e <;> (try (simp only [hp] at e)) <;> (try (cases p <;> simp [biName?] at hp <;> simp_all [binOp?, cmpOp?] <;> done))
  · split at e
    · rename_i q
      simp only [Bool.and_eq_true, decide_eq_true_eq] at q
      obtain ⟨q1, q2, q3⟩ := q
      cases q1
      cases e
      exact .inl ⟨_, _, _, rfl, q2, q3, rfl⟩
    · cases e
  · split at e
    · rename_i q
      simp only [Bool.and_eq_true, decide_eq_true_eq] at q
      obtain ⟨q1, q2, q3, q4⟩ := q
      cases q1
      cases e
      exact .inr ⟨_, _, _, _, rfl, q2, q3, q4, rfl⟩
    · cases e
section
variable {X : Cx}
theorem gl_of {n : Str} (h : glName X.env.scope n = true) : L2.Gl X n := by
  unfold glName at h
  have q : X.env.scope.names.lookup n = some .globalImplicit := of_decide_eq_true h
  exact q
/-- a binary operator, by values -/
theorem bin_ok {p : Prim} {op : Operator} {r : R2} (hp : binOp? p = some op) (ho : OpR X (binaryOp op) r)
    (h : ∀ {F H : Hp} {os : List O} {o : O} {x y : V} {Q : VK}, Sub F H → RepVs (gl X) F H os [x, y] → pev p os = some o → PP (gl X) F H o Q → r x y H Q) : PrimOk X p := by
  intro x xs σ H Q e w
  obtain ⟨a, b, pos, rfl, rfl⟩ := opnds_bin hp e
  refine wpe_of (pe_op ho pe_wp pe_wp) (WPE.mono w fun v H1 w1 => WPE.mono w1 fun v2 H2 w2 => ?_)
  obtain ⟨F, os, o, s, rv, ev, pp⟩ := w2
  exact h s rv ev pp
theorem cmp_ok {p : Prim} {op : CmpOp} {r : R2} (hp : cmpOp? p = some op) (hn : p ≠ .isN) (hn2 : p ≠ .notN) (ho : OpR X (compareOp op) r)
    (h : ∀ {F H : Hp} {os : List O} {o : O} {x y : V} {Q : VK}, Sub F H → RepVs (gl X) F H os [x, y] → pev p os = some o → PP (gl X) F H o Q → r x y H Q) : CmpOk X p := by
  constructor
  · intro x xs σ H Q e w
    obtain ⟨a, b, pos, rfl, hs, rfl⟩ := opnds_cmp hp hn hn2 e
    refine wpe_of (pe_cmpR ho pe_wp pe_wp (marks_of hs)) (WPE.mono w fun v H1 w1 => WPE.mono w1 fun v2 H2 w2 => ?_)
    obtain ⟨F, os, o, s, rv, ev, pp⟩ := w2
    exact h s rv ev pp
  · intro x xs σ H Q e w
    obtain ⟨a, b, pos, rfl, hs, rfl⟩ := opnds_cmp hp hn hn2 e
    refine wpt_of (pt_cmpR ho pe_wp pe_wp (marks_of hs)) (WPE.mono w fun v H1 w1 => WPE.mono w1 fun v2 H2 w2 => ?_)
    obtain ⟨F, os, o, s, rv, ev, pp⟩ := w2
    exact h s rv ev pp
theorem isN_ok {p : Prim} {op : CmpOp} {r : R2} (hp : cmpOp? p = some op) (hn : p = .isN ∨ p = .notN) (ho : OpR X (compareOp op) r)
    (h : ∀ {F H : Hp} {os : List O} {o : O} {x : V} {Q : VK}, Sub F H → RepVs (gl X) F H os [x] → pev p os = some o → PP (gl X) F H o Q → r x .non H Q) : CmpOk X p := by
  constructor
  · intro x xs σ H Q e w
    obtain ⟨a, k, po, pos, rfl, rfl⟩ := opnds_isN hp hn e
    refine wpe_of (pe_cmpR ho pe_wp pe_non (by cases op <;> rfl)) (WPE.mono w fun v H1 w1 => ?_)
    obtain ⟨F, os, o, s, rv, ev, pp⟩ := w1
    exact h s rv ev pp
  · intro x xs σ H Q e w
    obtain ⟨a, k, po, pos, rfl, rfl⟩ := opnds_isN hp hn e
    refine wpt_of (pt_cmpR ho pe_wp pe_non (by cases op <;> rfl)) (WPE.mono w fun v H1 w1 => ?_)
    obtain ⟨F, os, o, s, rv, ev, pp⟩ := w1
    exact h s rv ev pp
theorem call1_ok {p : Prim} {n : Str} {id : String} {r : List V → Hp → VK → Prop} (hp : biName? p = some n) (B : XOK X) (hin : n ∈ biNames) (hc : CallR X (.builtin id) r) (hv : bootBuiltins n = some (.builtin id)) (hn : n ≠ "__name__") (hd : (n == ("__debug__" : Str)) = false)
    (h : ∀ {F H : Hp} {os : List O} {o : O} {vs : List V} {Q : VK}, Sub F H → RepVs (gl X) F H os vs → pev p os = some o → PP (gl X) F H o Q → r vs H Q) : PrimOk X p := by
  intro x xs σ H Q e w
  rcases opnds_call hp e with ⟨a, po, pos, rfl, hg, hs, rfl⟩ | ⟨a, b, po, pos, rfl, hg, hs, hs2, rfl⟩
  · refine wpe_of (pe_callB hc (gl_of hg) (B.bi n hin) hv (pa_wp1 hs) hn hd (starEach_cons hs) (by rfl)) (WPE.mono w fun v H1 w1 => ?_)
    obtain ⟨F, os, o, s, rv, ev, pp⟩ := w1
    exact h s rv ev pp
  · refine wpe_of (pe_callB hc (gl_of hg) (B.bi n hin) hv (pa_wp2 hs hs2) hn hd (starEach_cons hs) (by rw [starEach_cons hs2]; rfl)) (WPE.mono w fun v H1 w1 => WPE.mono w1 fun v2 H2 w2 => ?_)
    obtain ⟨F, os, o, s, rv, ev, pp⟩ := w2
    exact h s rv ev pp
theorem callT_ok {p : Prim} {n : Str} {T : String} {r : List V → Hp → VK → Prop} (hp : biName? p = some n) (B : XOK X) (hin : n ∈ biNames) (hc : CallR X (.type T) r) (hv : bootBuiltins n = some (.type T)) (hn : n ≠ "__name__") (hd : (n == ("__debug__" : Str)) = false)
    (h : ∀ {F H : Hp} {os : List O} {o : O} {vs : List V} {Q : VK}, Sub F H → RepVs (gl X) F H os vs → pev p os = some o → PP (gl X) F H o Q → r vs H Q) : PrimOk X p := by
  intro x xs σ H Q e w
  rcases opnds_call hp e with ⟨a, po, pos, rfl, hg, hs, rfl⟩ | ⟨a, b, po, pos, rfl, hg, hs, hs2, rfl⟩
  · refine wpe_of (pe_callTy hc (gl_of hg) (B.bi n hin) hv (pa_wp1 hs) hn hd (starEach_cons hs) (by rfl)) (WPE.mono w fun v H1 w1 => ?_)
    obtain ⟨F, os, o, s, rv, ev, pp⟩ := w1
    exact h s rv ev pp
  · refine wpe_of (pe_callTy hc (gl_of hg) (B.bi n hin) hv (pa_wp2 hs hs2) hn hd (starEach_cons hs) (by rw [starEach_cons hs2]; rfl)) (WPE.mono w fun v H1 w1 => WPE.mono w1 fun v2 H2 w2 => ?_)
    obtain ⟨F, os, o, s, rv, ev, pp⟩ := w2
    exact h s rv ev pp
theorem idx_ok {r : R2} (hr : IxR X r)
    (h : ∀ {F H : Hp} {os : List O} {o : O} {x y : V} {Q : VK}, Sub F H → RepVs (gl X) F H os [x, y] → pev .idx os = some o → PP (gl X) F H o Q → r x y H Q) : PrimOk X .idx := by
  intro x xs σ H Q e w
  obtain ⟨a, b, pos, rfl, hs, rfl⟩ := opnds_idx e
  refine wpe_of (pe_ix hr pe_wp pe_wp (plainIx_of hs)) (WPE.mono w fun v H1 w1 => WPE.mono w1 fun v2 H2 w2 => ?_)
  obtain ⟨F, os, o, s, rv, ev, pp⟩ := w2
  exact h s rv ev pp
end
end DV
namespace DV
open PySem PySem.Spec PyProof.Rows L2
section
variable {X : Cx}
theorem i2_some {f : Int → Int → Option D} {os : List O} {o : O} (h : i2 f os = some o) : ∃ i j d, os = [.p (.int i), .p (.int j)] ∧ f i j = some d ∧ o = .p d := by
  unfold i2 at h
  split at h
  · rename_i i j
    split at h
    · rename_i d e
      exact ⟨i, j, d, rfl, e, (Option.some.inj h).symm⟩
    · cases h
  · cases h
/-- two ints, a scalar out -/
theorem i2_ok {F H : Hp} {f : Int → Int → Option D} {os : List O} {o : O} {x y : V} {Q : VK} (s : Sub F H) (rv : RepVs (gl X) F H os [x, y]) (ev : i2 f os = some o) (pp : PP (gl X) F H o Q)
    (C : Int → Int → V → Prop) (hf : ∀ i j d, f i j = some d → ∃ v, C i j v ∧ RepD (gl X) F d v) : ∃ i j v, x = .int i ∧ y = .int j ∧ C i j v ∧ Q v H := by
  obtain ⟨i, j, d, rfl, e, rfl⟩ := i2_some ev
  obtain ⟨o1, o2, as, bs, e2, r1, r2⟩ := rv.two
  cases e2
  obtain ⟨v, c, r⟩ := hf i j d e
  exact ⟨i, j, v, (repO_p r1).int', (repO_p r2).int', c, pp.sc s r⟩
theorem ok_int {p : Prim} {op : Operator} {C : Int → Int → Prop} {g : Int → Int → Int} {f : Int → Int → Option D} (hp : binOp? p = some op) (he : pev p = i2 f) (ho : OpR X (binaryOp op) (rI C fun i j => .int (g i j))) (hf : ∀ i j d, f i j = some d → C i j ∧ d = .int (g i j)) : PrimOk X p :=
  bin_ok hp ho fun {F H os o x y Q} s rv ev pp => by
    rw [he] at ev
    obtain ⟨i, j, v, h1, h2, ⟨h3, h4⟩, q⟩ := i2_ok s rv ev pp (fun i j v => C i j ∧ v = .int (g i j)) fun i j d e => by
      obtain ⟨c, rfl⟩ := hf i j d e
      exact ⟨_, ⟨c, rfl⟩, repD_int⟩
    subst h4
    exact ⟨i, j, h1, h2, h3, q⟩
theorem ok_int0 {p : Prim} {op : Operator} {g : Int → Int → Int} {f : Int → Int → Option D} (hp : binOp? p = some op) (he : pev p = i2 f) (ho : OpR X (binaryOp op) (rI0 fun i j => .int (g i j))) (hf : ∀ i j d, f i j = some d → d = .int (g i j)) : PrimOk X p :=
  bin_ok hp ho fun {F H os o x y Q} s rv ev pp => by
    rw [he] at ev
    obtain ⟨i, j, v, h1, h2, h4, q⟩ := i2_ok s rv ev pp (fun i j v => v = .int (g i j)) fun i j d e => by
      have := hf i j d e
      subst this
      exact ⟨_, rfl, repD_int⟩
    subst h4
    exact ⟨i, j, h1, h2, q⟩
theorem ok_cmpI {p : Prim} {op : CmpOp} {g : Int → Int → Bool} {f : Int → Int → Option D} (hp : cmpOp? p = some op) (hn : p ≠ .isN) (hn2 : p ≠ .notN) (he : pev p = i2 f) (ho : OpR X (compareOp op) (rI0 fun i j => .bl (g i j))) (hf : ∀ i j d, f i j = some d → d = .bl (g i j)) : CmpOk X p :=
  cmp_ok hp hn hn2 ho fun {F H os o x y Q} s rv ev pp => by
    rw [he] at ev
    obtain ⟨i, j, v, h1, h2, h4, q⟩ := i2_ok s rv ev pp (fun i j v => v = .bl (g i j)) fun i j d e => by
      have := hf i j d e
      subst this
      exact ⟨_, rfl, repD_bl⟩
    subst h4
    exact ⟨i, j, h1, h2, q⟩
theorem inj_if {c : Prop} [Decidable c] {a d : D} (h : (if c then some a else none) = some d) : c ∧ d = a := by
  split at h
  · exact ⟨‹_›, (Option.some.inj h).symm⟩
  · cases h
theorem prim_sub : PrimOk X .sub := ok_int0 rfl rfl op_sub fun _ _ _ e => (Option.some.inj e).symm
theorem op_mulX : OpR X (binaryOp .Mult) (rI (fun i j => CMul i j ∨ CMulW i j) fun i j => .int (i * j)) := opI fun _ _ _ _ _ _ _ hc q => mul_int q (hc.elim CMul.ok CMulW.ok)
theorem prim_mul : PrimOk X .mul := ok_int rfl rfl op_mulX fun _ _ _ e => by
  have q := inj_if e
  exact q
theorem log2_small {j : Int} (h0 : 0 < j) (h : j < 1073741824) : j.natAbs.log2 < 9000 := by
  have h1 : j.natAbs ≠ 0 := by omega
  exact (Nat.log2_lt h1).mpr (Nat.lt_of_lt_of_le (show j.natAbs < 2 ^ 30 by omega) (Nat.pow_le_pow_right (by decide) (by decide)))
theorem div_cond {j : Int} (h : (0 < j ∧ j < 1073741824) ∨ (0 < j ∧ j.natAbs.log2 < 9000)) : 0 < j ∧ j.natAbs.log2 < 9000 := h.elim (fun z => ⟨z.1, log2_small z.1 z.2⟩) id
theorem prim_fdiv : PrimOk X .fdiv := ok_int rfl rfl op_fdivW fun _ _ _ e => by
  obtain ⟨h, rfl⟩ := inj_if e
  exact ⟨div_cond h, rfl⟩
theorem prim_mod : PrimOk X .mod := ok_int rfl rfl op_mod fun _ _ _ e => by
  have q := inj_if e
  exact q
theorem op_powX : OpR X (binaryOp .Pow) (rI (fun i j => CPow i j ∨ (0 ≤ j ∧ (Builtin.Int.intBits i : Int) * j ≤ 2 ^ 27)) fun i j => .int (i ^ j.toNat)) := opI fun _ _ _ _ _ _ _ hc q =>
  hc.elim (fun h => pow_int_small h.1 h.2.1 h.2.2 q) fun h => pow_int h.1 h.2 q
theorem prim_pow : PrimOk X .pow := ok_int rfl rfl op_powX fun _ _ _ e => by
  have q := inj_if e
  exact q
theorem prim_shl : PrimOk X .shl := ok_int rfl rfl op_shl fun _ _ _ e => by
  have q := inj_if e
  exact q
theorem prim_shr : PrimOk X .shr := ok_int rfl rfl op_shr fun _ _ _ e => by
  have q := inj_if e
  exact q
theorem prim_band : PrimOk X .band := ok_int0 rfl rfl op_and fun _ _ _ e => (Option.some.inj e).symm
theorem prim_bor : PrimOk X .bor := ok_int0 rfl rfl op_or fun _ _ _ e => (Option.some.inj e).symm
theorem prim_bxor : PrimOk X .bxor := ok_int0 rfl rfl op_xor fun _ _ _ e => (Option.some.inj e).symm
theorem prim_lt : CmpOk X .lt := ok_cmpI rfl (by decide) (by decide) rfl op_lt fun _ _ _ e => (Option.some.inj e).symm
theorem prim_le : CmpOk X .le := ok_cmpI rfl (by decide) (by decide) rfl op_le fun _ _ _ e => (Option.some.inj e).symm
theorem prim_gt : CmpOk X .gt := ok_cmpI rfl (by decide) (by decide) rfl op_gt fun _ _ _ e => (Option.some.inj e).symm
theorem prim_ge : CmpOk X .ge := ok_cmpI rfl (by decide) (by decide) rfl op_ge fun _ _ _ e => (Option.some.inj e).symm
theorem prim_neg : PrimOk X .neg := by
  intro x xs σ H Q e w
  obtain ⟨a, pos, rfl, rfl⟩ := opnds_neg e
  refine wpe_of (pe_un un_neg pe_wp) (WPE.mono w fun v H1 w1 => ?_)
  obtain ⟨F, os, o, s, rv, ev, pp⟩ := w1
  obtain ⟨o1, as, rfl, r1⟩ := rv.one
  have ev : pNeg [o1] = some o := ev
  unfold pNeg at ev
  split at ev
  · rename_i i e1
    cases e1
    cases ev
    exact ⟨i, (repO_p r1).int', pp.sc s repD_int⟩
  · cases ev
theorem eq_rep {F H : Hp} {n : Bool} {os : List O} {o : O} {x y : V} {Q : VK} (s : Sub F H) (rv : RepVs (gl X) F H os [x, y]) (ev : pEq n os = some o) (pp : PP (gl X) F H o Q) :
    ∃ d e, Dp X.K H x d ∧ Dp X.K H y e ∧ SeqAt.shaped d = true ∧ SeqAt.shaped e = true ∧ Q (.bl (PyData.eqv d e != n)) H := by
  obtain ⟨o1, o2, as, bs, rfl, r1, r2⟩ := rv.two
  have ev : (match eqD o1.frz o2.frz with
    | some x => some (O.p (.bl (x != n)))
    | none => none) = some o := ev
  cases e : eqD o1.frz o2.frz with
  | none => rw [e] at ev; cases ev
  | some b =>
    rw [e] at ev
    cases ev
    obtain ⟨h1, h2, h3⟩ := eqD_some e
    exact ⟨_, _, dp_of (r1.now s) (by omega), dp_of (r2.now s) (by omega), shaped_of h1, shaped_of h2, by rw [← h3]; exact pp.sc s repD_bl⟩
theorem prim_eq (B : XOK X) : CmpOk X .eq := cmp_ok rfl (by decide) (by decide) (op_eqD B.u64) fun {F H os o x y Q} s rv ev pp => by
  obtain ⟨d, e, h1, h2, h3, h4, q⟩ := eq_rep s rv ev pp
  refine ⟨d, e, h1, h2, h3, h4, ?_⟩
  rw [Bool.bne_false] at q
  exact q
theorem prim_ne (B : XOK X) : CmpOk X .ne := cmp_ok rfl (by decide) (by decide) (op_neD B.u64) fun {F H os o x y Q} s rv ev pp => by
  obtain ⟨d, e, h1, h2, h3, h4, q⟩ := eq_rep s rv ev pp
  refine ⟨d, e, h1, h2, h3, h4, ?_⟩
  rw [Bool.bne_true] at q
  exact q
theorem isN_rep {F H : Hp} {n : Bool} {os : List O} {o : O} {x : V} {Q : VK} (s : Sub F H) (rv : RepVs (gl X) F H os [x]) (ev : pIsN n os = some o) (pp : PP (gl X) F H o Q) : Q (.bl (decide (x = .non) != n)) H := by
  obtain ⟨o1, as, rfl, r1⟩ := rv.one
  have ev : some (O.p (.bl (isNonO o1 != n))) = some o := ev
  cases ev
  have e : isNonO o1 = decide (x = .non) := by
    cases o1 with
    | p d =>
      have r := repO_p r1
      cases d with
      | non => rw [r.non']; rfl
      | bl _ => rw [r.bl']; rfl
      | int _ => rw [r.int']; rfl
      | str _ => rw [r.str']; rfl
      | tup _ => unfold RepD at r; obtain ⟨_, _, rfl, _⟩ := r; rfl
      | lst _ => unfold RepD at r; obtain ⟨_, _, rfl, _⟩ := r; rfl
      | dct _ _ => unfold RepD at r; obtain ⟨_, _, _, _, rfl, _⟩ := r; rfl
      | ins _ _ _ => unfold RepD at r; obtain ⟨_, _, _, _, rfl, _⟩ := r; rfl
      | exc _ _ _ => unfold RepD at r; obtain ⟨_, _, _, _, rfl, _⟩ := r; rfl
    | lst _ => unfold RepO at r1; obtain ⟨_, _, rfl, _⟩ := r1; rfl
    | dct _ _ => unfold RepO at r1; obtain ⟨_, _, _, _, rfl, _⟩ := r1; rfl
    | ol _ => unfold RepO at r1; obtain ⟨_, _, _, rfl, _⟩ := r1; rfl
    | ot _ => unfold RepO at r1; obtain ⟨_, _, rfl, _⟩ := r1; rfl
    | od _ _ => unfold RepO at r1; obtain ⟨_, _, _, _, _, rfl, _⟩ := r1; rfl
    | ob _ _ _ => unfold RepO at r1; obtain ⟨_, _, _, _, _, rfl, _⟩ := r1; rfl
  rw [← e]
  exact pp.sc s repD_bl
theorem prim_isN : CmpOk X .isN := isN_ok rfl (.inl rfl) op_isN fun {F H os o x Q} s rv ev pp => ⟨rfl, by
  have q := isN_rep s rv ev pp
  rw [Bool.bne_false] at q
  exact q⟩
theorem prim_notN : CmpOk X .notN := isN_ok rfl (.inr rfl) op_notN fun {F H os o x Q} s rv ev pp => ⟨rfl, by
  have q := isN_rep s rv ev pp
  rw [Bool.bne_true] at q
  exact q⟩
/-- two rules for one operation -/
theorem OpR.or' {f : Value → Value → Sem Value} {r1 r2 : R2} (h1 : OpR X f r1) (h2 : OpR X f r2) : OpR X f (fun x y H Q => r1 x y H Q ∨ r2 x y H Q) := fun pins s σ H x y v u Q I rx ry h => by
  rcases h with h | h
  · exact h1 pins s σ H x y v u Q I rx ry h
  · exact h2 pins s σ H x y v u Q I rx ry h
def rInQ (K : PySem.W.Frag) (n : Bool) : R2 := fun x y H Q => ∃ d a vs ds, Dp K H x d ∧ y = .ref a ∧ (SqL K H a vs ∨ SqT K H a vs) ∧ DpAll K H vs ds ∧ PyData.canLayAll0 ds = true ∧ d.canLay0 = true ∧ d.depth ≤ 64 ∧ Q (.bl ((ds.any fun z => PyData.eqv z d) != n)) H
theorem rInQ_reads {pins : List (Addr × Obj)} {σ : St} {H : Hp} {s : Shared} {a : Addr} {vs : List V} {ds : List PyData} (I : Inv X pins σ H s) (h : SqL X.K H a vs ∨ SqT X.K H a vs) (q : DpAll X.K H vs ds) : (∃ as, Reads s.heap (.ref a) (.list ds) as) ∨ ∃ as, Reads s.heap (.ref a) (.tuple ds) as := by
  rcases h with h | h
  · exact .inl (Dp.reads I (.list ds) (.ref a) (.ref a) (.lst h q) rfl)
  · exact .inr (Dp.reads I (.tuple ds) (.ref a) (.ref a) (.tup h q) rfl)
theorem op_inQ (hu : X.A.units + 65 < cLine) : OpR X (compareOp .In) (rInQ X.K false) := by
  intro pins s σ H x y v u Q I rx ry h
  obtain ⟨d, a, vs, ds, hd, rfl, hs, hq, l1, l2, dp, q⟩ := h
  cases ry
  rw [Bool.bne_false] at q
  obtain ⟨bs, r1⟩ := Dp.reads I d x v hd rx
  rcases rInQ_reads I hs hq with ⟨as, r2⟩ | ⟨as, r2⟩
  · exact SeqAt.in_list_reads r2 r1 l1 l2 (by omega) ⟨.bl _, H, I, rfl, q⟩
  · exact SeqAt.in_tuple_reads r2 r1 l1 l2 (by omega) ⟨.bl _, H, I, rfl, q⟩
theorem op_notInQ (hu : X.A.units + 65 < cLine) : OpR X (compareOp .NotIn) (rInQ X.K true) := by
  intro pins s σ H x y v u Q I rx ry h
  obtain ⟨d, a, vs, ds, hd, rfl, hs, hq, l1, l2, dp, q⟩ := h
  cases ry
  rw [Bool.bne_true] at q
  obtain ⟨bs, r1⟩ := Dp.reads I d x v hd rx
  rcases rInQ_reads I hs hq with ⟨as, r2⟩ | ⟨as, r2⟩
  · exact SeqAt.notIn_list_reads r2 r1 l1 l2 (by omega) ⟨.bl _, H, I, rfl, q⟩
  · exact SeqAt.notIn_tuple_reads r2 r1 l1 l2 (by omega) ⟨.bl _, H, I, rfl, q⟩
/-- one sign in a text -/
def rInS' (n : Bool) : R2 := fun x y H Q => ∃ c z, x = .str ⟨#[c]⟩ ∧ y = .str z ∧ Q (.bl (decide (c ∈ z.cps.toList) != n)) H
theorem in_rep {F H : Hp} {n : Bool} {os : List O} {o : O} {x y : V} {Q : VK} (s : Sub F H) (rv : RepVs (gl X) F H os [x, y]) (ev : pIn n os = some o) (pp : PP (gl X) F H o Q) : rInQ X.K n x y H Q ∨ rInS' n x y H Q := by
  obtain ⟨o1, o2, as, bs, rfl, r1, r2⟩ := rv.two
  unfold pIn at ev
  split at ev
  · rename_i a z e
    cases e
    split at ev
    · rename_i w
      split at ev
      · split at ev
        · rename_i c e
          cases ev
          refine .inr ⟨c, z, ?_, (repO_p r2).str', pp.sc s repD_bl⟩
          rw [(repO_p r1).str']
          obtain ⟨cps⟩ := w
          have : cps = #[c] := by
            have e : cps.toList = [c] := e
            simpa using congrArg List.toArray e
          rw [this]
        · cases ev
      · cases ev
    · cases ev
  · rename_i e
    cases e
    split at ev
    · rename_i ds e1
      split at ev
      · rename_i b e2
        cases ev
        obtain ⟨a, vs, rfl, h1, h2⟩ := items_rep s r2 e1
        obtain ⟨h3, h4, h5⟩ := inD_some e2
        have h6 : deps ds ≤ 64 := deps_le h3
        exact .inl ⟨_, a, vs, _, dp_of (r1.now s) (by omega), rfl, h1, dps_of (h2.mono s) (by omega), lays_py _ (by omega), lay_py _ (by omega), Nat.le_trans (dep_py _) h4, by rw [← h5]; exact pp.sc s repD_bl⟩
      · cases ev
    · cases ev
  · cases ev
theorem op_inS1 : OpR X (compareOp .In) (rInS' false) := fun pins s σ H x y v u Q I rx ry h => by
  obtain ⟨c, z, rfl, rfl, q⟩ := h
  rw [Bool.bne_false] at q
  exact op_in_sign pins s σ H _ _ v u Q I rx ry ⟨c, z, rfl, rfl, q⟩
theorem op_notInS1 : OpR X (compareOp .NotIn) (rInS' true) := fun pins s σ H x y v u Q I rx ry h => by
  obtain ⟨c, z, rfl, rfl, q⟩ := h
  rw [Bool.bne_true] at q
  exact op_notIn_sign pins s σ H _ _ v u Q I rx ry ⟨c, z, rfl, rfl, q⟩
theorem prim_idx' {F H : Hp} {os : List O} {o : O} {x y : V} {Q : VK} (s : Sub F H) (rv : RepVs (gl X) F H os [x, y]) (ev : pIdx os = some o) (pp : PP (gl X) F H o Q) : rIx X.K x y H Q := by
  obtain ⟨o1, o2, as, bs, rfl, r1, r2⟩ := rv.two
  unfold pIdx at ev
  split at ev
  · rename_i z i e
    cases e
    split at ev
    · split at ev
      · rename_i c e
        cases ev
        exact .inr (.inr ⟨z, i, c, (repO_p r1).str', (repO_p r2).int', ‹_›, e, pp.sc s repD_str⟩)
      · cases ev
    · cases ev
  · rename_i i ne e
    cases e
    split at ev
    · rename_i ds e1
      split at ev
      · rename_i d e2
        cases ev
        obtain ⟨a, vs, rfl, h1, h2⟩ := items_rep s r1 e1
        obtain ⟨v, h3, h4⟩ := h2.atI e2
        rcases h1 with h1 | h1
        · exact .inl ⟨a, vs, i, v, rfl, (repO_p r2).int', h1, h3, pp.sc s h4⟩
        · exact .inr (.inl ⟨a, vs, i, v, rfl, (repO_p r2).int', h1, h3, pp.sc s h4⟩)
      · cases ev
    · cases ev
  · cases ev
theorem prim_idx : PrimOk X .idx := idx_ok ix_seq fun s rv ev pp => prim_idx' s rv ev pp
theorem prim_in (B : XOK X) : CmpOk X .in_ := cmp_ok (p := .in_) rfl (by decide) (by decide) (OpR.or' (op_inQ (by have := B.un; omega)) op_inS1) fun {F H os o x y Q} s rv ev pp => in_rep s rv (show pIn false os = some o from ev) pp
theorem prim_notin (B : XOK X) : CmpOk X .notin := cmp_ok (p := .notin) rfl (by decide) (by decide) (OpR.or' (op_notInQ (by have := B.un; omega)) op_notInS1) fun {F H os o x y Q} s rv ev pp => in_rep s rv (show pIn true os = some o from ev) pp
def rCatL (K : PySem.W.Frag) : R2 := fun x y H Q => ∃ a b xs zs, x = .ref a ∧ y = .ref b ∧ SqL K H a xs ∧ SqL K H b zs ∧ xs.length + zs.length ≤ sizeLine ∧ ∀ p, H p = none → Q (.ref p) (upd H p (.lst (xs ++ zs)))
theorem op_catL : OpR X (binaryOp .Add) (rCatL X.K) := by
  intro pins s σ H x y v u Q I rx ry h
  obtain ⟨l, b, xs, zs, rfl, rfl, hH, hB, hz, q⟩ := h
  cases rx
  cases ry
  obtain ⟨its, r, ⟨o, n, e, c, d0, d⟩, _⟩ := I.list hH
  obtain ⟨its2, r2, ⟨o2, n2, e2, c2, d02, d2⟩, _⟩ := I.list hB
  have l1 := r.length
  have l2 := r2.length
  obtain ⟨oc, od, dt, sl⟩ := o
  obtain ⟨oc2, od2, dt2, sl2⟩ := o2
  simp only at c d0 d c2 d02 d2
  subst c d0 d c2 d02 d2
  have ea : its.toArray ++ its2.toArray = (its ++ its2).toArray := by simp
  refine concat_meets ⟨_, e, rfl⟩ ⟨_, e2, rfl⟩ noFill_list_add seq_list_add PySem.F.slot_list_add PySem.F.entry_list_add (PySem.F.args_list_add_2 _ _) (list_addW l b its.toArray its2.toArray n n2 none none sl sl2 (by simp; omega)) ⟨e, e2, ?_⟩
  rw [ea]
  exact ⟨.ref _, _, I.lnew (t' := s.toks) (r.append r2) (by rw [List.length_append]; omega), rfl, q _ I.fresh⟩
theorem pp_if {g : Gl} {F H : Hp} {c : Prop} [Decidable c] {a o : O} {Q : VK} (h : (if c then some a else none) = some o) (pp : PP g F H o Q) : c ∧ PP g F H a Q := by
  split at h
  · cases h
    exact ⟨‹_›, pp⟩
  · cases h
theorem add_lists {F H : Hp} {a b : List D} {o1 o2 o : O} {as bs : List Addr} {x y : V} {Q : VK} (s : Sub F H) (r1 : RepO (gl X) F H o1 x as) (r2 : RepO (gl X) F H o2 y bs) (e1 : o1.lsts = some a) (e2 : o2.lsts = some b)
    (ev : (if a.length + b.length ≤ sizeLine then some (O.lst (a ++ b)) else none) = some o) (pp : PP (gl X) F H o Q) : rCatL X.K x y H Q := by
  obtain ⟨l, pp⟩ := pp_if ev pp
  obtain ⟨p, vs, rfl, h1, h2⟩ := lsts_rep s r1 e1
  obtain ⟨q, ws, rfl, h3, h4⟩ := lsts_rep s r2 e2
  refine ⟨p, q, vs, ws, rfl, rfl, h1, h3, by rw [← h2.length, ← h4.length]; exact l, fun c hc => pp.newLst s (h2.append h4) hc⟩
theorem prim_add : PrimOk X .add := by
  refine bin_ok rfl (OpR.or' op_add (OpR.or' op_add_str (OpR.or' op_catA op_catL))) fun {F H os o x y Q} s rv ev pp => ?_
  obtain ⟨o1, o2, as, bs, rfl, r1, r2⟩ := rv.two
  have ev : pAdd [o1, o2] = some o := ev
  unfold pAdd at ev
  split at ev
  · rename_i i j e
    cases e
    cases ev
    exact .inl ⟨i, j, (repO_p r1).int', (repO_p r2).int', pp.sc s repD_int⟩
  · rename_i i j e
    cases e
    obtain ⟨l, pp⟩ := pp_if ev pp
    exact .inr (.inl ⟨i, j, (repO_p r1).str', (repO_p r2).str', l, pp.sc s repD_str⟩)
  · rename_i i j e
    cases e
    obtain ⟨l, pp⟩ := pp_if ev pp
    obtain ⟨a, vs, rfl, h1, h2⟩ := repD_tup (repO_p r1)
    obtain ⟨b, ws, rfl, h3, h4⟩ := repD_tup (repO_p r2)
    have l1 := h2.length
    have l2 := h4.length
    refine .inr (.inr (.inl ⟨a, b, vs, ws, rfl, rfl, s.sqT h1, s.sqT h3, by omega, fun z => ?_, fun z z2 => ?_, fun z z2 p hp => pp.newTup s (h2.append h4) hp⟩))
    · subst z
      have : i = [] := List.length_eq_zero_iff.mp l1
      subst this
      refine pp.sc s ?_
      unfold RepD
      exact ⟨b, ws, rfl, h3, h4⟩
    · subst z2
      have : j = [] := List.length_eq_zero_iff.mp l2
      subst this
      refine pp.sc s ?_
      rw [List.append_nil]
      unfold RepD
      exact ⟨a, vs, rfl, h1, h2⟩
  all_goals first
    | (rename_i e; cases e; exact .inr (.inr (.inr (add_lists s r1 r2 rfl rfl ev pp))))
    | cases ev
theorem SlR.or' {r1 r2 : V → Option Int → Option Int → Hp → VK → Prop} (h1 : SlR X r1) (h2 : SlR X r2) : SlR X (fun x lo hi H Q => r1 x lo hi H Q ∨ r2 x lo hi H Q) := fun pins s σ H x v vl vu lo hi sl Q I rx hs pl pu h => by
  rcases h with h | h
  · exact h1 pins s σ H x v vl vu lo hi sl Q I rx hs pl pu h
  · exact h2 pins s σ H x v vl vu lo hi sl Q I rx hs pl pu h
def rSlQ (K : PySem.W.Frag) : V → Option Int → Option Int → Hp → VK → Prop := fun x lo hi H Q => rSlS x lo hi H Q ∨ rSlA K x lo hi H Q ∨ rSlL K x lo hi H Q
theorem sl_q : SlR X (rSlQ X.K) := SlR.or' sl_str (SlR.or' sl_tupA sl_list)
theorem cut_all {ds : List D} {lo hi : Option Int} (h : HT.sIx ds.length 0 lo = 0 ∧ HT.sIx ds.length ds.length hi = ds.length) : cutD ds lo hi = ds := by
  unfold cutD
  rw [h.1, h.2, List.drop_zero, Nat.sub_zero, List.take_length]
theorem cut_rep {F H : Hp} {o1 o : O} {as : List Addr} {x : V} {lo hi : Option Int} {Q : VK} (s : Sub F H) (r1 : RepO (gl X) F H o1 x as) (ev : cutO lo hi o1 = some o) (pp : PP (gl X) F H o Q) : rSlQ X.K x lo hi H Q := by
  unfold cutO at ev
  split at ev
  · obtain ⟨l, pp⟩ := pp_if ev pp
    exact .inl ⟨_, (repO_p r1).str', l, pp.sc s repD_str⟩
  · cases ev
    obtain ⟨a, vs, rfl, h1, h2⟩ := repD_tup (repO_p r1)
    refine .inr (.inl ⟨a, vs, rfl, s.sqT h1, fun z => ?_, fun _ p hp => pp.newTup s (h2.cut lo hi) hp⟩)
    refine pp.sc s ?_
    rw [cut_all (by rw [h2.length]; exact z)]
    unfold RepD
    exact ⟨a, vs, rfl, h1, h2⟩
  · cases ev
    obtain ⟨a, vs, rfl, h1, h2⟩ := lsts_rep s r1 rfl
    exact .inr (.inr ⟨a, vs, rfl, h1, fun p hp => pp.newLst s (h2.cut lo hi) hp⟩)
  · cases ev
    obtain ⟨a, vs, rfl, h1, h2⟩ := lsts_rep s r1 rfl
    exact .inr (.inr ⟨a, vs, rfl, h1, fun p hp => pp.newLst s (h2.cut lo hi) hp⟩)
  · cases ev
section
variable {a l h : Expr} {p2 pos : Pos} {σ : St} {H : Hp} {Q : VK}
theorem slice_go {pins : List (Addr × Obj)} {s3 : Shared} {H3 : Hp} {lo hi : Option Expr} {x : V} {v vl vu : Value} {l u : Option Int} (I3 : Inv X pins σ H3 s3) (r1 : RelV x v) (pl : IsPart vl l) (pu : IsPart vu u) (q3 : rSlQ X.K x l u H3 Q) :
    wpAny (model X.prog X.w) X.A (subscriptTail a (.Slice lo hi none p2) v (.ref s3.heap.objs.size)) (EP X pins σ Q) X.xe { s3 with heap := s3.heap.push { cls := .type "slice", data := .fields #[vl, vu, .none] } } := by
  have I4 : Inv X pins σ H3 { s3 with heap := s3.heap.push { cls := .type "slice", data := .fields #[vl, vu, .none] } } := I3.kept (t' := s3.toks) fun b ob q => Heap.get?_push_of_some _ q
  obtain ⟨T, id, hT, ht, hg⟩ := sl_q pins { s3 with heap := s3.heap.push { cls := .type "slice", data := .fields #[vl, vu, .none] } } σ H3 x v vl vu l u s3.heap.objs.size Q I4 r1 (Heap.IsSliceOf.new ..) pl pu q3
  exact tail_any (ops := [.ref s3.heap.objs.size, v]) ht hT hg (by with_unfolding_all rfl)
theorem slice2 (w : WPE X a σ H fun x H1 => WPE X l σ H1 fun y H2 => WPE X h σ H2 fun z H3 => ∃ i j, y = .int i ∧ z = .int j ∧ rSlQ X.K x (some i) (some j) H3 Q) : WPE X (.Subscript a (.Slice (some l) (some h) none p2) pos) σ H Q := by
  intro pins s I
  refine Subscript_ (thn (w pins s I) fun v s1 ⟨x, H1, I1, r1, q1⟩ => ?_)
  refine wpAny_Slice ?_
  rw [evalPart_some]
  refine thn (q1 pins s1 I1) fun vl s2 ⟨y, H2, I2, r2, q2⟩ => ?_
  rw [evalPart_some]
  refine thn (q2 pins s2 I2) fun vu s3 ⟨z, H3, I3, r3, i, j, e1, e2, q3⟩ => ?_
  subst e1 e2
  obtain ⟨t, rfl⟩ := r2
  obtain ⟨t', rfl⟩ := r3
  rw [evalPart_none]
  exact wpAny_pure (slice_go I3 r1 (.int i t) (.int j t') q3)
theorem sliceL (w : WPE X a σ H fun x H1 => WPE X l σ H1 fun y H2 => ∃ i, y = .int i ∧ rSlQ X.K x (some i) none H2 Q) : WPE X (.Subscript a (.Slice (some l) none none p2) pos) σ H Q := by
  intro pins s I
  refine Subscript_ (thn (w pins s I) fun v s1 ⟨x, H1, I1, r1, q1⟩ => ?_)
  refine wpAny_Slice ?_
  rw [evalPart_some]
  refine thn (q1 pins s1 I1) fun vl s2 ⟨y, H2, I2, r2, i, e1, q2⟩ => ?_
  subst e1
  obtain ⟨t, rfl⟩ := r2
  rw [evalPart_none]
  refine wpAny_pure ?_
  refine wpAny_pure ?_
  exact slice_go I2 r1 (.int i t) .none q2
theorem sliceH (w : WPE X a σ H fun x H1 => WPE X h σ H1 fun y H2 => ∃ i, y = .int i ∧ rSlQ X.K x none (some i) H2 Q) : WPE X (.Subscript a (.Slice none (some h) none p2) pos) σ H Q := by
  intro pins s I
  refine Subscript_ (thn (w pins s I) fun v s1 ⟨x, H1, I1, r1, q1⟩ => ?_)
  refine wpAny_Slice ?_
  rw [evalPart_none]
  refine wpAny_pure ?_
  rw [evalPart_some]
  refine thn (q1 pins s1 I1) fun vl s2 ⟨y, H2, I2, r2, i, e1, q2⟩ => ?_
  subst e1
  obtain ⟨t, rfl⟩ := r2
  refine wpAny_pure ?_
  exact slice_go I2 r1 .none (.int i t) q2
end
theorem prim_sl (lo hi : Bool) : PrimOk X (.sl lo hi) := by
  intro x xs σ H Q e w
  rcases opnds_sl e with ⟨rfl, rfl, a, l, h, p2, pos, rfl, rfl⟩ | ⟨rfl, rfl, a, l, p2, pos, rfl, rfl⟩ | ⟨rfl, rfl, a, h, p2, pos, rfl, rfl⟩
  · refine slice2 (WPE.mono w fun v H1 w1 => WPE.mono w1 fun v2 H2 w2 => WPE.mono w2 fun v3 H3 w3 => ?_)
    obtain ⟨F, os, o, s, rv, ev, pp⟩ := w3
    obtain ⟨o1, o2, o3, as, bs, cs, rfl, r1, r2, r3⟩ := rv.three
    have ev : pSl2 [o1, o2, o3] = some o := ev
    unfold pSl2 at ev
    split at ev
    · rename_i o' i j e
      cases e
      exact ⟨i, j, (repO_p r2).int', (repO_p r3).int', cut_rep s r1 ev pp⟩
    · cases ev
  · refine sliceL (WPE.mono w fun v H1 w1 => WPE.mono w1 fun v2 H2 w2 => ?_)
    obtain ⟨F, os, o, s, rv, ev, pp⟩ := w2
    obtain ⟨o1, o2, as, bs, rfl, r1, r2⟩ := rv.two
    have ev : pSlL [o1, o2] = some o := ev
    unfold pSlL at ev
    split at ev
    · rename_i o' i e
      cases e
      exact ⟨i, (repO_p r2).int', cut_rep s r1 ev pp⟩
    · cases ev
  · refine sliceH (WPE.mono w fun v H1 w1 => WPE.mono w1 fun v2 H2 w2 => ?_)
    obtain ⟨F, os, o, s, rv, ev, pp⟩ := w2
    obtain ⟨o1, o2, as, bs, rfl, r1, r2⟩ := rv.two
    have ev : pSlH [o1, o2] = some o := ev
    unfold pSlH at ev
    split at ev
    · rename_i o' i e
      cases e
      exact ⟨i, (repO_p r2).int', cut_rep s r1 ev pp⟩
    · cases ev
theorem RepVs.len {g : Gl} {F H : Hp} : ∀ {os : List O} {vs : List V}, RepVs g F H os vs → os.length = vs.length
  | [], vs, h => by unfold RepVs at h; rw [h]; rfl
  | o :: os, vs, h => by
    unfold RepVs at h
    obtain ⟨v, r, as, rfl, _, h2⟩ := h
    rw [List.length_cons, List.length_cons, RepVs.len h2]
theorem RepVs.inv1 {g : Gl} {F H : Hp} {o : O} {vs : List V} (h : RepVs g F H [o] vs) : ∃ x as, vs = [x] ∧ RepO g F H o x as := by
  unfold RepVs at h
  obtain ⟨v, r, as, rfl, h1, h2⟩ := h
  unfold RepVs at h2
  subst h2
  exact ⟨v, as, rfl, h1⟩
theorem RepVs.inv2 {g : Gl} {F H : Hp} {o p : O} {vs : List V} (h : RepVs g F H [o, p] vs) : ∃ x y as bs, vs = [x, y] ∧ RepO g F H o x as ∧ RepO g F H p y bs := by
  unfold RepVs at h
  obtain ⟨v, r, as, rfl, h1, h2⟩ := h
  obtain ⟨y, bs, rfl, h3⟩ := RepVs.inv1 h2
  exact ⟨v, y, as, bs, rfl, h1, h3⟩
theorem RepOs.length {g : Gl} {F H : Hp} : ∀ {os : List O} {vs : List V} {as : List Addr}, RepOs g F H os vs as → os.length = vs.length
  | [], vs, as, h => by unfold RepOs at h; rw [h.1]; rfl
  | o :: os, vs, as, h => by
    unfold RepOs at h
    obtain ⟨v, r, a1, a2, rfl, _, _, h2⟩ := h
    rw [List.length_cons, List.length_cons, RepOs.length h2]
theorem prim_len (B : XOK X) : PrimOk X .len := call1_ok rfl B (by decide +kernel) call_len boot_len (by decide +kernel) (by decide +kernel) fun {F H os o vs Q} s rv ev pp => by
  have ev : pLen os = some o := ev
  unfold pLen at ev
  split at ev
  · obtain ⟨x, as, rfl, r⟩ := rv.inv1
    obtain ⟨l, pp⟩ := pp_if ev pp
    refine ⟨_, _, rfl, ?_, pp.sc s repD_int⟩
    rw [(repO_p r).str']
    exact ⟨l, rfl⟩
  · obtain ⟨x, as, rfl, r⟩ := rv.inv1
    cases ev
    unfold RepO at r
    obtain ⟨a, ws, bs, rfl, _, _, q, t⟩ := r
    exact ⟨_, _, rfl, .inl ⟨ws, .inl (.inl q), t.length⟩, pp.sc s repD_int⟩
  · obtain ⟨x, as, rfl, r⟩ := rv.inv1
    split at ev
    · rename_i ds e
      cases ev
      obtain ⟨a, ws, rfl, h1, h2⟩ := items_rep s r e
      refine ⟨_, _, rfl, ?_, pp.sc s repD_int⟩
      rcases h1 with h1 | h1
      · exact .inl ⟨ws, h1, h2.length⟩
      · exact .inr ⟨ws, h1, h2.length⟩
    · cases ev
  · cases ev
theorem intsD_rep {g : Gl} {F : Hp} : ∀ {ds : List D} {vs : List V} {ns : List Int}, RepDs g F ds vs → intsD ds = some ns → vs = ns.map V.int
  | [], vs, ns, h, e => by
    unfold RepDs at h
    cases e
    rw [h]; rfl
  | d :: ds, vs, ns, h, e => by
    unfold RepDs at h
    obtain ⟨v, r, rfl, h1, h2⟩ := h
    cases d with
    | int i =>
      have e2 : (intsD ds).map (i :: ·) = some ns := e
      cases e3 : intsD ds with
      | none => rw [e3] at e2; cases e2
      | some ms =>
        rw [e3] at e2
        cases e2
        rw [h1.int', intsD_rep h2 e3]; rfl
    | _ => cases e
theorem blsD_rep {g : Gl} {F : Hp} : ∀ {ds : List D} {vs : List V} {ns : List Bool}, RepDs g F ds vs → blsD ds = some ns → vs = ns.map V.bl
  | [], vs, ns, h, e => by
    unfold RepDs at h
    cases e
    rw [h]; rfl
  | d :: ds, vs, ns, h, e => by
    unfold RepDs at h
    obtain ⟨v, r, rfl, h1, h2⟩ := h
    cases d with
    | bl i =>
      have e2 : (blsD ds).map (i :: ·) = some ns := e
      cases e3 : blsD ds with
      | none => rw [e3] at e2; cases e2
      | some ms =>
        rw [e3] at e2
        cases e2
        rw [h1.bl', blsD_rep h2 e3]; rfl
    | _ => cases e
theorem lsts1_some {f : List D → Option O} {os : List O} {o : O} (h : lsts1 f os = some o) : ∃ p ds, os = [p] ∧ p.lsts = some ds ∧ f ds = some o := by
  unfold lsts1 at h
  split at h
  · exact ⟨_, _, rfl, rfl, h⟩
  · exact ⟨_, _, rfl, rfl, h⟩
  · cases h
theorem maxL_mem : ∀ (a : Int) (r : List Int), maxL a r ∈ a :: r
  | a, [] => List.mem_cons_self
  | a, b :: r => by
    unfold maxL
    split
    · exact List.mem_cons_of_mem _ (maxL_mem b r)
    · rcases List.mem_cons.mp (maxL_mem a r) with e | e
      · rw [e]; exact List.mem_cons_self
      · exact List.mem_cons_of_mem _ (List.mem_cons_of_mem _ e)
theorem maxL_ge : ∀ (a : Int) (r : List Int), ∀ y ∈ a :: r, y ≤ maxL a r
  | a, [], y, h => by
    have : y = a := by simpa using h
    rw [this]; exact Int.le_refl _
  | a, b :: r, y, h => by
    unfold maxL
    split
    · rename_i q
      rcases List.mem_cons.mp h with e | e
      · have := maxL_ge b r b List.mem_cons_self
        omega
      · exact maxL_ge b r y e
    · rename_i q
      rcases List.mem_cons.mp h with e | e
      · exact maxL_ge a r y (by rw [e]; exact List.mem_cons_self)
      · rcases List.mem_cons.mp e with e | e
        · have := maxL_ge a r a List.mem_cons_self
          omega
        · exact maxL_ge a r y (List.mem_cons_of_mem _ e)
theorem minL_mem : ∀ (a : Int) (r : List Int), minL a r ∈ a :: r
  | a, [] => List.mem_cons_self
  | a, b :: r => by
    unfold minL
    split
    · exact List.mem_cons_of_mem _ (minL_mem b r)
    · rcases List.mem_cons.mp (minL_mem a r) with e | e
      · rw [e]; exact List.mem_cons_self
      · exact List.mem_cons_of_mem _ (List.mem_cons_of_mem _ e)
theorem minL_le : ∀ (a : Int) (r : List Int), ∀ y ∈ a :: r, minL a r ≤ y
  | a, [], y, h => by
    have : y = a := by simpa using h
    rw [this]; exact Int.le_refl _
  | a, b :: r, y, h => by
    unfold minL
    split
    · rename_i q
      rcases List.mem_cons.mp h with e | e
      · have := minL_le b r b List.mem_cons_self
        omega
      · exact minL_le b r y e
    · rename_i q
      rcases List.mem_cons.mp h with e | e
      · exact minL_le a r y (by rw [e]; exact List.mem_cons_self)
      · rcases List.mem_cons.mp e with e | e
        · have := minL_le a r a List.mem_cons_self
          omega
        · exact minL_le a r y (List.mem_cons_of_mem _ e)
theorem prim_max1 (B : XOK X) (hc : X.calm = true) : PrimOk X .max1 := call1_ok rfl B (by decide +kernel) (cr_max hc) boot_max (by decide +kernel) (by decide +kernel) fun {F H os o vs Q} s rv ev pp => by
  obtain ⟨p, ds, rfl, e1, e2⟩ := lsts1_some ev
  obtain ⟨x, as, rfl, r⟩ := rv.inv1
  obtain ⟨a, ws, rfl, h1, h2⟩ := lsts_rep s r e1
  cases e3 : intsD ds with
  | none => rw [e3] at e2; cases e2
  | some ns =>
    cases ns with
    | nil => rw [e3] at e2; cases e2
    | cons n ns =>
      rw [e3] at e2
      cases e2
      rw [intsD_rep h2 e3] at h1
      refine ⟨a, n :: ns, rfl, h1, by simp, fun m hm hy => ?_⟩
      have : m = maxL n ns := Int.le_antisymm (maxL_ge n ns m hm) (hy _ (maxL_mem n ns))
      rw [this]
      exact pp.sc s repD_int
theorem prim_min1 (B : XOK X) (hc : X.calm = true) : PrimOk X .min1 := call1_ok rfl B (by decide +kernel) (cr_min hc) boot_min (by decide +kernel) (by decide +kernel) fun {F H os o vs Q} s rv ev pp => by
  obtain ⟨p, ds, rfl, e1, e2⟩ := lsts1_some ev
  obtain ⟨x, as, rfl, r⟩ := rv.inv1
  obtain ⟨a, ws, rfl, h1, h2⟩ := lsts_rep s r e1
  cases e3 : intsD ds with
  | none => rw [e3] at e2; cases e2
  | some ns =>
    cases ns with
    | nil => rw [e3] at e2; cases e2
    | cons n ns =>
      rw [e3] at e2
      cases e2
      rw [intsD_rep h2 e3] at h1
      refine ⟨a, n :: ns, rfl, h1, by simp, fun m hm hy => ?_⟩
      have : m = minL n ns := Int.le_antisymm (hy _ (minL_mem n ns)) (minL_le n ns m hm)
      rw [this]
      exact pp.sc s repD_int
theorem prim_divmod (B : XOK X) : PrimOk X .divmod := call1_ok rfl B (by decide +kernel) call_divmodW (by rfl) (by decide +kernel) (by decide +kernel) fun {F H os o vs Q} s rv ev pp => by
  have ev : i2 (fun i j => if (0 < j ∧ j < 1073741824) ∨ (0 < j ∧ j.natAbs.log2 < 9000) then some (.tup [.int (i / j), .int (i % j)]) else none) os = some o := ev
  obtain ⟨i, j, d, rfl, e, rfl⟩ := i2_some ev
  obtain ⟨x, y, as, bs, rfl, r1, r2⟩ := rv.inv2
  obtain ⟨hc, rfl⟩ := inj_if e
  have hd := div_cond hc
  rw [(repO_p r1).int', (repO_p r2).int']
  exact ⟨i, j, rfl, ⟨hd.1, PyProof.noPylong_of_log2 hd.2⟩, fun p hp => pp.newTup s (by unfold RepDs RepDs RepDs; exact ⟨_, _, rfl, repD_int, _, _, rfl, repD_int, rfl⟩) hp⟩
theorem prim_max2 (B : XOK X) (hc : X.calm = true) : PrimOk X .max2 := call1_ok rfl B (by decide +kernel) (call_max2 hc) boot_max (by decide +kernel) (by decide +kernel) fun {F H os o vs Q} s rv ev pp => by
  have ev : i2 (fun i j => some (.int (if j > i then j else i))) os = some o := ev
  obtain ⟨i, j, d, rfl, e, rfl⟩ := i2_some ev
  obtain ⟨x, y, as, bs, rfl, r1, r2⟩ := rv.inv2
  cases e
  rw [(repO_p r1).int', (repO_p r2).int']
  exact ⟨i, j, rfl, pp.sc s repD_int⟩
theorem prim_min2 (B : XOK X) (hc : X.calm = true) : PrimOk X .min2 := call1_ok rfl B (by decide +kernel) (call_min2 hc) boot_min (by decide +kernel) (by decide +kernel) fun {F H os o vs Q} s rv ev pp => by
  have ev : i2 (fun i j => some (.int (if j < i then j else i))) os = some o := ev
  obtain ⟨i, j, d, rfl, e, rfl⟩ := i2_some ev
  obtain ⟨x, y, as, bs, rfl, r1, r2⟩ := rv.inv2
  cases e
  rw [(repO_p r1).int', (repO_p r2).int']
  exact ⟨i, j, rfl, pp.sc s repD_int⟩
theorem prim_sum (B : XOK X) (hc : X.calm = true) : PrimOk X .sum := call1_ok rfl B (by decide +kernel) (cr_sum hc) boot_sum (by decide +kernel) (by decide +kernel) fun {F H os o vs Q} s rv ev pp => by
  obtain ⟨p, ds, rfl, e1, e2⟩ := lsts1_some ev
  obtain ⟨x, as, rfl, r⟩ := rv.inv1
  obtain ⟨a, ws, rfl, h1, h2⟩ := lsts_rep s r e1
  cases e3 : intsD ds with
  | none => rw [e3] at e2; cases e2
  | some ns =>
    rw [e3] at e2
    cases e2
    rw [intsD_rep h2 e3] at h1
    exact ⟨a, ns, rfl, h1, pp.sc s repD_int⟩
theorem prim_any (B : XOK X) (hc : X.calm = true) : PrimOk X .any := call1_ok rfl B (by decide +kernel) (cr_any hc) (by decide +kernel) (by decide +kernel) (by decide +kernel) fun {F H os o vs Q} s rv ev pp => by
  obtain ⟨p, ds, rfl, e1, e2⟩ := lsts1_some ev
  obtain ⟨x, as, rfl, r⟩ := rv.inv1
  obtain ⟨a, ws, rfl, h1, h2⟩ := lsts_rep s r e1
  cases e3 : blsD ds with
  | none => rw [e3] at e2; cases e2
  | some ns =>
    rw [e3] at e2
    cases e2
    rw [blsD_rep h2 e3] at h1
    exact ⟨a, ns, rfl, h1, pp.sc s repD_bl⟩
theorem prim_all (B : XOK X) (hc : X.calm = true) : PrimOk X .all := call1_ok rfl B (by decide +kernel) (cr_all hc) (by decide +kernel) (by decide +kernel) (by decide +kernel) fun {F H os o vs Q} s rv ev pp => by
  obtain ⟨p, ds, rfl, e1, e2⟩ := lsts1_some ev
  obtain ⟨x, as, rfl, r⟩ := rv.inv1
  obtain ⟨a, ws, rfl, h1, h2⟩ := lsts_rep s r e1
  cases e3 : blsD ds with
  | none => rw [e3] at e2; cases e2
  | some ns =>
    rw [e3] at e2
    cases e2
    rw [blsD_rep h2 e3] at h1
    exact ⟨a, ns, rfl, h1, pp.sc s repD_bl⟩
theorem prim_int1 (B : XOK X) : PrimOk X .int1 := callT_ok rfl B (by decide +kernel) call_int1 boot_int (by decide +kernel) (by decide +kernel) fun {F H os o vs Q} s rv ev pp => by
  have ev : pInt1 os = some o := ev
  unfold pInt1 at ev
  split at ev
  · obtain ⟨x, as, rfl, r⟩ := rv.inv1
    cases ev
    rw [(repO_p r).int']
    exact .inl ⟨_, rfl, pp.sc s repD_int⟩
  · obtain ⟨x, as, rfl, r⟩ := rv.inv1
    cases ev
    rw [(repO_p r).bl']
    exact .inr ⟨_, rfl, pp.sc s repD_int⟩
  · cases ev
theorem it1_some {f : List D → Option O} {os : List O} {o : O} (h : it1 f os = some o) : ∃ p ds, os = [p] ∧ p.items = some ds ∧ f ds = some o := by
  unfold it1 at h
  split at h
  · split at h
    · exact ⟨_, _, rfl, ‹_›, h⟩
    · cases h
  · cases h
theorem prim_lst1 (B : XOK X) : PrimOk X .lst1 := callT_ok rfl B (by decide +kernel) call_list_of boot_list (by decide +kernel) (by decide +kernel) fun {F H os o vs Q} s rv ev pp => by
  obtain ⟨p, ds, rfl, e1, e2⟩ := it1_some ev
  obtain ⟨x, as, rfl, r⟩ := rv.inv1
  obtain ⟨a, ws, rfl, h1, h2⟩ := items_rep s r e1
  cases e2
  exact ⟨a, ws, rfl, h1, fun l hl => pp.newLst s h2 hl⟩
theorem prim_tup1 (B : XOK X) : PrimOk X .tup1 := callT_ok rfl B (by decide +kernel) call_tuple_of boot_tuple (by decide +kernel) (by decide +kernel) fun {F H os o vs Q} s rv ev pp => by
  obtain ⟨p, ds, rfl, e1, e2⟩ := it1_some ev
  obtain ⟨x, as, rfl, r⟩ := rv.inv1
  cases e2
  cases p with
  | p d =>
    cases d with
    | tup ds' =>
      cases e1
      obtain ⟨a, ws, rfl, h1, h2⟩ := repD_tup (repO_p r)
      exact ⟨a, ws, rfl, .inr ⟨s.sqT h1, pp.sc s (repO_p r)⟩⟩
    | lst ds' =>
      cases e1
      obtain ⟨a, ws, rfl, h1, h2⟩ := lsts_rep s r rfl
      exact ⟨a, ws, rfl, .inl ⟨h1, fun l hl => pp.newTup s h2 hl⟩⟩
    | _ => cases e1
  | lst ds' =>
    cases e1
    obtain ⟨a, ws, rfl, h1, h2⟩ := lsts_rep s r rfl
    exact ⟨a, ws, rfl, .inl ⟨h1, fun l hl => pp.newTup s h2 hl⟩⟩
  | _ => cases e1
theorem primOk (B : XOK X) : ∀ p, (ncalm p = true → X.calm = true) → PrimOk X p
  | .add, hc => prim_add | .sub, hc => prim_sub | .mul, hc => prim_mul | .fdiv, hc => prim_fdiv | .mod, hc => prim_mod | .pow, hc => prim_pow | .shl, hc => prim_shl | .shr, hc => prim_shr
  | .band, hc => prim_band | .bor, hc => prim_bor | .bxor, hc => prim_bxor | .neg, hc => prim_neg | .eq, hc => (prim_eq B).e | .ne, hc => (prim_ne B).e | .lt, hc => prim_lt.e | .le, hc => prim_le.e | .gt, hc => prim_gt.e | .ge, hc => prim_ge.e
  | .isN, hc => prim_isN.e | .notN, hc => prim_notN.e | .in_, hc => (prim_in B).e | .notin, hc => (prim_notin B).e | .idx, hc => prim_idx | .sl a b, hc => prim_sl a b
  | .len, hc => prim_len B | .max1, hc => prim_max1 B (hc rfl) | .min1, hc => prim_min1 B (hc rfl) | .max2, hc => prim_max2 B (hc rfl) | .min2, hc => prim_min2 B (hc rfl) | .sum, hc => prim_sum B (hc rfl) | .int1, hc => prim_int1 B | .lst1, hc => prim_lst1 B | .tup1, hc => prim_tup1 B
  | .any, hc => prim_any B (hc rfl) | .all, hc => prim_all B (hc rfl) | .divmod, hc => prim_divmod B
theorem primOkT (B : XOK X) : ∀ p, cmpOp? p ≠ none → PrimOkT X p
  | .eq, _ => (prim_eq B).t | .ne, _ => (prim_ne B).t | .lt, _ => prim_lt.t | .le, _ => prim_le.t | .gt, _ => prim_gt.t | .ge, _ => prim_ge.t
  | .isN, _ => prim_isN.t | .notN, _ => prim_notN.t | .in_, _ => (prim_in B).t | .notin, _ => (prim_notin B).t
  | .add, h | .sub, h | .mul, h | .fdiv, h | .mod, h | .pow, h | .shl, h | .shr, h | .band, h | .bor, h | .bxor, h | .neg, h | .idx, h | .sl _ _, h
  | .len, h | .max1, h | .min1, h | .max2, h | .min2, h | .sum, h | .int1, h | .lst1, h | .tup1, h | .any, h | .all, h
  | .divmod, h => absurd rfl h
end
end DV
namespace DV
open PySem PySem.Spec PyProof.Rows L2
section
variable {g : Gl} {F H : Hp} {σ : St} {ρ : Ev} {fp : Nat → List Addr}
theorem SOK.hide (S : SOK g F H σ ρ fp) (i : Nat) : SOK g F H σ (ρ.set i none) (fun j => if j = i then [] else fp j) where
  sub := S.sub
  len := by rw [List.length_set]; exact S.len
  at_ := fun j o e => by
    by_cases hj : j = i
    · subst hj
      by_cases hl : j < ρ.length
      · rw [List.getElem?_set_self hl] at e; cases e
      · rw [List.getElem?_eq_none (by rw [List.length_set]; omega)] at e; cases e
    · rw [List.getElem?_set_ne (Ne.symm hj)] at e
      rw [if_neg hj]
      exact S.at_ j o e
  nd := fun j => by
    by_cases hj : j = i
    · rw [if_pos hj]; exact List.nodup_nil
    · rw [if_neg hj]; exact S.nd j
  dj := fun j k a hj hk => by
    by_cases h1 : j = i
    · rw [if_pos h1] at hj; exact absurd hj (by simp)
    · by_cases h2 : k = i
      · rw [if_pos h2] at hk; exact absurd hk (by simp)
      · rw [if_neg h1] at hj
        rw [if_neg h2] at hk
        exact S.dj j k a hj hk
  emp := fun j h => by
    by_cases hj : j = i
    · rw [if_pos hj]
    · rw [if_neg hj]
      refine S.emp j fun o e => h o ?_
      rw [List.getElem?_set_ne (Ne.symm hj)]
      exact e
theorem own_hide {fp : Nat → List Addr} {i : Nat} {a : Addr} (h : Own (fun j => if j = i then [] else fp j) a) : Own fp a := by
  obtain ⟨j, hj⟩ := h
  dsimp only at hj
  by_cases e : j = i
  · rw [if_pos e] at hj; exact absurd hj (by simp)
  · rw [if_neg e] at hj; exact ⟨j, hj⟩
theorem SOK.hide_no (S : SOK g F H σ ρ fp) {i : Nat} {a : Addr} (ha : a ∈ fp i) : ¬ Own (fun j => if j = i then [] else fp j) a := fun ⟨j, hj⟩ => by
  dsimp only at hj
  by_cases e : j = i
  · rw [if_pos e] at hj; exact absurd hj (by simp)
  · rw [if_neg e] at hj
    exact e (S.dj j i a hj ha)
theorem SOK.put (S : SOK g F H σ ρ fp) {i : Nat} {o : O} {v : V} {fr : List Addr} (hi : i < ρ.length) (hv : σ[i]? = some (some v)) (r : RepO g F H o v fr) (nd : fr.Nodup) (ds : ∀ a ∈ fr, ∀ j, j ≠ i → a ∉ fp j) :
    SOK g F H σ (ρ.set i (some o)) (fun j => if j = i then fr else fp j) where
  sub := S.sub
  len := by rw [List.length_set]; exact S.len
  at_ := fun j p e => by
    by_cases hj : j = i
    · subst hj
      rw [List.getElem?_set_self hi] at e
      cases e
      rw [if_pos rfl]
      exact ⟨v, hv, r⟩
    · rw [List.getElem?_set_ne (Ne.symm hj)] at e
      rw [if_neg hj]
      exact S.at_ j p e
  nd := fun j => by
    by_cases hj : j = i
    · rw [if_pos hj]; exact nd
    · rw [if_neg hj]; exact S.nd j
  dj := fun j k a hj hk => by
    by_cases h1 : j = i
    · by_cases h2 : k = i
      · rw [h1, h2]
      · rw [if_pos h1] at hj
        rw [if_neg h2] at hk
        exact absurd hk (ds a hj k h2)
    · by_cases h2 : k = i
      · rw [if_neg h1] at hj
        rw [if_pos h2] at hk
        exact absurd hj (ds a hk j h1)
      · rw [if_neg h1] at hj
        rw [if_neg h2] at hk
        exact S.dj j k a hj hk
  emp := fun j h => by
    by_cases hj : j = i
    · subst hj
      exact absurd (List.getElem?_set_self hi) (h o)
    · rw [if_neg hj]
      refine S.emp j fun p e => h p ?_
      rw [List.getElem?_set_ne (Ne.symm hj)]
      exact e
/-- a slot stored anew -/
theorem SOK.store (S : SOK g F H σ ρ fp) {i : Nat} {o : O} {v : V} {fr : List Addr} (hi : i < ρ.length) (r : RepO g F H o v fr) (nd : fr.Nodup) (ds : ∀ a ∈ fr, ¬ Own fp a) :
    SOK g F H (σ.set i (some v)) (ρ.set i (some o)) (fun j => if j = i then fr else fp j) := by
  have hs : i < σ.length := by rw [← S.len]; exact hi
  have S1 := S.hide i
  have S2 : SOK g F H (σ.set i (some v)) (ρ.set i none) (fun j => if j = i then [] else fp j) := ⟨S1.sub, by simpa using S1.len, fun j p e => by
    by_cases hj : j = i
    · subst hj
      rw [List.getElem?_set_self hi] at e; cases e
    · rw [List.getElem?_set_ne (Ne.symm hj)]
      exact S1.at_ j p e, S1.nd, S1.dj, S1.emp⟩
  have S3 := S2.put (i := i) (o := o) (v := v) (fr := fr) (by rw [List.length_set]; exact hi) (List.getElem?_set_self hs) r nd fun a ha j hj q => by
    rw [if_neg hj] at q
    exact ds a ha ⟨j, q⟩
  rw [List.set_set] at S3
  have e : (fun j => if j = i then fr else if j = i then [] else fp j) = fun j => if j = i then fr else fp j := by
    funext j
    by_cases hj : j = i
    · rw [if_pos hj, if_pos hj]
    · rw [if_neg hj, if_neg hj, if_neg hj]
  rw [e] at S3
  exact S3
end
/-- the footprints without some slots -/
def fpHide (fp : Nat → List Addr) : List Nat → Nat → List Addr
  | [] => fp
  | i :: is => fpHide (fun j => if j = i then [] else fp j) is
theorem SOK.hideAll {g : Gl} {F H : Hp} {σ : St} : ∀ (is : List Nat) {ρ : Ev} {fp : Nat → List Addr}, SOK g F H σ ρ fp → SOK g F H σ (hideAll ρ is) (fpHide fp is)
  | [], _, _, S => S
  | i :: is, _, _, S => SOK.hideAll is (S.hide i)
theorem own_hideAll : ∀ (is : List Nat) {fp : Nat → List Addr} {a : Addr}, Own (fpHide fp is) a → Own fp a
  | [], _, _, h => h
  | i :: is, _, _, h => own_hide (own_hideAll is h)
theorem fpHide_at : ∀ (is : List Nat) {fp : Nat → List Addr} {j : Nat} {a : Addr}, a ∈ fpHide fp is j → a ∈ fp j ∧ j ∉ is
  | [], _, _, _, h => ⟨h, by simp⟩
  | i :: is, fp, j, a, h => by
    obtain ⟨h1, h2⟩ := fpHide_at is h
    by_cases e : j = i
    · rw [if_pos e] at h1; exact absurd h1 (by simp)
    · rw [if_neg e] at h1
      exact ⟨h1, by simp [e, h2]⟩
theorem SOK.hideAll_no {g : Gl} {F H : Hp} {σ : St} {ρ : Ev} {fp : Nat → List Addr} (S : SOK g F H σ ρ fp) {is : List Nat} {i : Nat} (hi : i ∈ is) {a : Addr} (ha : a ∈ fp i) : ¬ Own (fpHide fp is) a := fun ⟨j, hj⟩ => by
  obtain ⟨h1, h2⟩ := fpHide_at is hj
  have := S.dj j i a h1 ha
  subst this
  exact h2 hi
theorem hideAll_length : ∀ (is : List Nat) (ρ : Ev), (hideAll ρ is).length = ρ.length
  | [], _ => rfl
  | i :: is, ρ => by unfold hideAll; rw [hideAll_length is, List.length_set]
/-- what was put aside comes back -/
theorem SOK.backAll {g : Gl} {F0 H0 F H : Hp} {σ σ' : St} {ρ0 : Ev} {fp0 : Nat → List Addr} {own : Addr → Prop} (S0 : SOK g F0 H0 σ ρ0 fp0) (s : Step F0 H0 own F H) : ∀ (is : List Nat) {ρ : Ev} {fp : Nat → List Addr}, SOK g F H σ' ρ fp → ρ.length = ρ0.length →
    (∀ i ∈ is, σ'[i]? = σ[i]?) → is.Nodup → (∀ i ∈ is, ∀ a ∈ fp0 i, ¬ own a) → (∀ i ∈ is, ∀ a ∈ fp0 i, ¬ Own fp a) → ∃ fp', SOK g F H σ' (backAll ρ0 ρ is) fp' ∧ (∀ a, Own fp' a → Own fp a ∨ ∃ i ∈ is, a ∈ fp0 i) ∧ (backAll ρ0 ρ is).length = ρ0.length
  | [], ρ, fp, S, hl, _, _, _, _ => ⟨fp, S, fun a h => .inl h, hl⟩
  | i :: is, ρ, fp, S, hl, kp, nd, no, no2 => by
    have ndc := List.nodup_cons.mp nd
    have key : ∃ fp1, SOK g F H σ' (ρ.set i (ρ0.getD i none)) fp1 ∧ (∀ a, Own fp1 a → Own fp a ∨ a ∈ fp0 i) := by
      cases e : ρ0[i]? with
      | none =>
        have hz := List.getElem?_eq_none_iff.mp e
        rw [List.set_eq_of_length_le (by omega)]
        exact ⟨fp, S, fun a h => .inl h⟩
      | some q =>
        have hiρ : i < ρ.length := by rw [hl]; exact (List.getElem?_eq_some_iff.mp e).1
        have eq : ρ0.getD i none = q := by rw [List.getD_eq_getElem?_getD, e]; rfl
        rw [eq]
        cases q with
        | none => exact ⟨_, S.hide i, fun a h => .inl (own_hide h)⟩
        | some o =>
          obtain ⟨v, hv, r⟩ := S0.at_ i o e
          refine ⟨_, S.put hiρ ((kp i List.mem_cons_self).trans hv) (r.stay s (no i List.mem_cons_self)) (S0.nd i) (fun a ha j hj q => no2 i List.mem_cons_self a ha ⟨j, q⟩), fun a ⟨j, hj⟩ => ?_⟩
          dsimp only at hj
          by_cases e : j = i
          · rw [if_pos e] at hj; exact .inr hj
          · rw [if_neg e] at hj; exact .inl ⟨j, hj⟩
    obtain ⟨fp1, S1, h1⟩ := key
    obtain ⟨fp', S', h', hl'⟩ := SOK.backAll S0 s is S1 (by rw [List.length_set]; exact hl) (fun j hj => kp j (List.mem_cons_of_mem _ hj)) ndc.2 (fun j hj => no j (List.mem_cons_of_mem _ hj)) (fun j hj a ha q => by
      rcases h1 a q with z | z
      · exact no2 j (List.mem_cons_of_mem _ hj) a ha z
      · have := S0.dj j i a ha z
        subst this
        exact ndc.1 hj)
    refine ⟨fp', S', fun a h => ?_, hl'⟩
    rcases h' a h with z | ⟨j, hj, z⟩
    · rcases h1 a z with z | z
      · exact .inl z
      · exact .inr ⟨i, List.mem_cons_self, z⟩
    · exact .inr ⟨j, List.mem_cons_of_mem _ hj, z⟩
structure Gx where
  prog : Program
  w : World
  K : PySem.W.Frag
  mg : Str → Option Value
  base : Heap
  A : Around
  calm : Bool
abbrev gx (X : Cx) : Gx := ⟨X.prog, X.w, X.K, X.mg, X.base, X.A, X.calm⟩
abbrev Gx.gl (g : Gx) : Gl := ⟨g.K, g.mg, g.w⟩
/-- what a def promises that does sem -/
def spOf (g : Gl) (n : Nat) (sem : FS) : Sp := fun vs H Q E => vs.length = n ∧ ∃ (F : Hp) (os : List O) (fp : Nat → List Addr) (r : R O) (bs : List (Option O)),
  SOK g F H (vs.map some) (os.map some) fp ∧ sem os = some (r, bs) ∧ RPost g F H (vs.map some) fp (fun C d _ H' => E C d H') Q bs r
structure CallOk (g : Gx) (f : Str) (dv : List D) (sem : FS) (n : Nat) : Prop where
  ex : ∃ (a : Addr) (fd : FuncData) (ps : List Str) (ds : List Value) (dvs : List V) (k : Nat), g.mg f = some (.ref a) ∧ PySem.W.keepIn g.K (.ref a) = true ∧ L2.Binds g.K fd ps ds ∧ Vals dvs ds ∧ (∀ F, RepDs g.gl F dv dvs) ∧
    ps.length = n + dv.length ∧ FnOk g.prog g.w g.K g.mg g.base (CX g.prog g.w) k a fd ps (spOf g.gl ps.length sem) ∧ Room k g.A ∧ (f == ("__debug__" : Str)) = false
/-- a constant of the module -/
def GlobOk (g : Gx) (x : Str) (d : D) : Prop := ∃ u v, g.mg x = some u ∧ RelV v u ∧ (∀ F, RepD g.gl F d v) ∧ (x == ("__debug__" : Str)) = false
/-- a tuple of texts of the module -/
def TupOk (g : Gx) (x : Str) (ys : List Str) : Prop := ∃ a o, g.mg x = some (.ref a) ∧ g.K.lookup a = some o ∧ o.cls = .type "tuple" ∧ o.dict = none ∧ (∀ F, SqT g.K F a (ys.map V.str)) ∧ (x == ("__debug__" : Str)) = false
/-- what is wanted at the operands of an own expression -/
def WantP (X : Cx) (ev : List O → Option O) (Q : VK) (vs : List V) (H : Hp) : Prop := ∃ F os o, Sub F H ∧ RepVs (gl X) F H os vs ∧ ev os = some o ∧ PP (gl X) F H o Q
structure PlugOk (g : Gx) (p : Plug) : Prop where
  run : ∀ {X : Cx}, gx X = g → XOK X → ∀ {x : Expr} {xs : List Expr} {σ : St} {H : Hp} {Q : VK}, p.sx X.env.scope x = some xs → WPEs X xs σ H (WantP X p.ev Q) → WPE X x σ H Q
/-- names, slot by slot -/
def NmsPE (X : Cx) : List Nat → List Expr → Prop
  | [], xs => xs = []
  | j :: js, xs => ∃ x r, xs = x :: r ∧ PE X x (tVar j) ∧ notStar x = true ∧ (∀ l, attributeBase x l X.env (eval x X.env) = eval x X.env) ∧ NmsPE X js r
/-- .. whose operands are names -/
structure PlugNOk (g : Gx) (p : Plug) : Prop where
  run : ∀ {X : Cx}, gx X = g → XOK X → ∀ {x : Expr} {xs : List Expr} {js : List Nat} {vs : List V} {σ : St} {H : Hp} {Q : VK}, p.sx X.env.scope x = some xs → NmsPE X js xs → OpdsRep (gl X) (fun _ => none) σ (js.map .sl) vs → WantP X p.ev Q vs H → WPE X x σ H Q
/-- .. that may stand as a test -/
structure PlugTOk (g : Gx) (p : Plug) : Prop where
  val : PlugOk g p
  tst : ∀ {X : Cx}, gx X = g → XOK X → ∀ {x : Expr} {xs : List Expr} {σ : St} {H : Hp} {Q : Bool → Hp → Prop}, p.sx X.env.scope x = some xs → WPEs X xs σ H (WantP X p.ev fun v H' => ∃ k, v = .bl k ∧ Q k H') → WPT X x σ H Q
structure CallGOk (g : Gx) (c : CallD) : Prop where
  run : ∀ {X : Cx} {W : WX}, gx X = g → XOK X → Takes X W → ∀ {x : Expr} {xs : List Expr} {σ : St} {H : Hp} {Q : VK}, c.sx X.env.scope x = some xs → WPEs X xs σ H (fun vs H1 => spOf (gl X) vs.length c.sem vs H1 Q fun C d H' => W C d σ H') → WPE X x σ H Q
structure CallHOk (g : Gx) (c : CallH) : Prop where
  run : ∀ {X : Cx} {W : WX}, gx X = g → XOK X → Takes X W → ∀ {x o : Expr} {xs : List Expr} {σ : St} {H : Hp} {Q : VK}, c.sx X.env.scope x = some (o, xs) →
    WPE X o σ H (fun v H1 => ∃ d F1, c.ok d = true ∧ RepD (gl X) F1 d v ∧ Sub F1 H1 ∧ WPEs X xs σ H1 fun vs H2 => spOf (gl X) (vs.length + 1) (c.sem d) (v :: vs) H2 Q fun C d H' => W C d σ H') → WPE X x σ H Q
/-- a receiver that is changed in its place -/
def WantM (X : Cx) (p : MutD) (v : V) (Q : VK) (vs : List V) (H : Hp) : Prop := ∃ (F : Hp) (o : O) (as : List Addr) (os : List O) (o' : O) (d : D), Sub F H ∧ RepO (gl X) F H o v as ∧ RepVs (gl X) F H os vs ∧ p.ev o os = some (o', d) ∧
  ∀ u F' H' as', Sub F F' → Sub F' H' → (∀ b w, H b = some w → b ∉ as → H' b = some w) → (∀ b w, F' b = some w → F b = some w ∨ H b = none) → RepO (gl X) F' H' o' v as' → as'.Nodup → (∀ b ∈ as', b ∈ as ∨ H b = none) → RepD (gl X) F' d u → Q u H'
structure MutOk (g : Gx) (p : MutD) : Prop where
  run : ∀ {X : Cx}, gx X = g → XOK X → ∀ {i : Nat} {oe : Expr} {args : List Expr} {ap cp : Pos} {σ : St} {H : Hp} {Q : VK} {v : V} {F0 : Hp} {o0 : O} {as0 : List Addr}, PE X oe (tVar i) → args.length ≤ 2 → args.all notStar = true → (ap.endLine == cp.line) = true → (∀ l, attributeBase oe l X.env (eval oe X.env) = eval oe X.env) →
    σ[i]? = some (some v) → Sub F0 H → RepO (gl X) F0 H o0 v as0 → p.ok o0 = true → WPEs X args σ H (WantM X p v Q) → WPE X (.Call (.Attribute oe p.nm ap) args [] cp) σ H Q
/-- something taken out of a slot's thing -/
def WantO (X : Cx) (p : OwnD) (v : V) (Q : VK) (vs : List V) (H : Hp) : Prop := ∃ (F : Hp) (o : O) (as : List Addr) (os : List O) (o' : O), Sub F H ∧ RepO (gl X) F H o v as ∧ as.Nodup ∧ RepVs (gl X) F H os vs ∧ p.ev o os = some o' ∧
  ∀ u F' H' as', Sub F F' → Sub F' H' → (∀ b w, H b = some w → b ∉ as → H' b = some w) → (∀ b w, F' b = some w → F b = some w ∨ H b = none) → RepO (gl X) F' H' o' u as' → as'.Nodup → (∀ b ∈ as', b ∈ as ∨ H b = none) → Q u H'
structure OwnOk (g : Gx) (p : OwnD) : Prop where
  run : ∀ {X : Cx}, gx X = g → XOK X → ∀ {i : Nat} {x oe : Expr} {args : List Expr} {σ : St} {H : Hp} {Q : VK} {v : V} {F0 : Hp} {o0 : O} {as0 : List Addr}, p.sx X.env.scope x = some (oe, args) → PE X oe (tVar i) → (∀ l, attributeBase oe l X.env (eval oe X.env) = eval oe X.env) →
    σ[i]? = some (some v) → Sub F0 H → RepO (gl X) F0 H o0 v as0 → p.ok o0 = true → WPEs X args σ H (WantO X p v Q) → WPE X x σ H Q
def RepVsP (g : Gl) (F H : Hp) (P : Addr → Prop) : List O → List V → Prop
  | [], vs => vs = []
  | o :: os, vs => ∃ v r as, vs = v :: r ∧ RepO g F H o v as ∧ (∀ a ∈ as, P a) ∧ RepVsP g F H P os r
/-- the i-th item comes: as it lies, or as a new tuple -/
def Yd (g : Gl) (F : Hp) (ds : List D) (i : Nat) (H : Hp) (x : V) (H' : Hp) : Prop :=
  ∃ d, ds[i]? = some d ∧ ((H' = H ∧ RepD g F d x) ∨ ∃ T vs es, x = .ref T ∧ H T = none ∧ H' = upd H T (.tup vs) ∧ d = .tup es ∧ RepDs g F es vs)
def WantI (X : Cx) (k : ItK) (R : It → Hp → Prop) (vs : List V) (H1 : Hp) : Prop := ∃ (F : Hp) (os : List O) (ds : List D) (P : Addr → Prop), Sub F H1 ∧ RepVsP (gl X) F H1 P os vs ∧ itD k os = some ds ∧
  ∀ (J : It) (G : Hp → Prop), Walk J ds.length G (Yd (gl X) F ds) → (∀ F' H', Sub F F' → Sub F' H' → (∀ a u, P a → H1 a = some u → H' a = some u) → G H') → R J H1
/-- a way of one's own to go through something -/
structure ItPOk (g : Gx) (p : ItP) : Prop where
  run : ∀ {X : Cx}, gx X = g → XOK X → ∀ {tg it : Expr} {xs : List Expr}, p.sx X.env.scope tg it = some xs → PI X tg it (fun σ H R => WPEs X xs σ H (WantI X (.own p) R))
def ItKOk (g : Gx) : ItK → Prop
  | .own p => ItPOk g p
  | _ => True
/-- a method of a thing of one's own, in a slot -/
structure CallMOk (g : Gx) (c : CallM) : Prop where
  run : ∀ {X : Cx} {W : WX}, gx X = g → XOK X → Takes X W → ∀ {i : Nat} {x o : Expr} {xs : List Expr} {σ : St} {H : Hp} {Q : VK} {v : V} {F0 : Hp} {o0 : O} {as0 : List Addr}, c.sx X.env.scope x = some (o, xs) → PE X o (tVar i) → (∀ l, attributeBase o l X.env (eval o X.env) = eval o X.env) →
    σ[i]? = some (some v) → Sub F0 H → RepO (gl X) F0 H o0 v as0 → c.ok o0 = true → WPEs X xs σ H (fun vs H2 => spOf (gl X) (vs.length + 1) c.sem (v :: vs) H2 Q fun C d H' => W C d σ H') → WPE X x σ H Q
/-- what stands at some places stays -/
def KeepsAt (as : List Addr) (H H' : Hp) : Prop := ∀ a ∈ as, ∀ u, H a = some u → H' a = some u
structure CallLOk (g : Gx) (c : CallL) : Prop where
  run : ∀ {X : Cx} {W : WX}, gx X = g → XOK X → Takes X W → ∀ {i : Nat} {x o : Expr} {xs ys : List Expr} {σ : St} {H : Hp} {Q : VK} {v : V} {F0 : Hp} {o0 : O} {as0 : List Addr}, c.sx X.env.scope x = some (o, xs, ys) → PE X o (tVar i) → (∀ l, attributeBase o l X.env (eval o X.env) = eval o X.env) →
    σ[i]? = some (some v) → Sub F0 H → RepO (gl X) F0 H o0 v as0 → as0.Nodup → c.ok o0 = true → WPEs X xs σ H (fun vs H1 => KeepsAt as0 H H1 ∧ WPEs X ys σ H1 fun ws H2 => KeepsAt as0 H H2 ∧ spOf (gl X) (vs.length + ws.length + 1) c.sem (v :: (vs ++ ws)) H2 Q fun C d H' => W C d σ H') → WPE X x σ H Q
mutual
def CallsE (g : Gx) : E → Prop
  | .call f dv sem es => CallOk g f dv sem es.length ∧ CallsEs g es
  | .glob x d => GlobOk g x d
  | .prim p es => (ncalm p = true → g.calm = true) ∧ CallsEs g es
  | .plug p es => PlugOk g p ∧ CallsEs g es
  | .plugT p es => PlugTOk g p ∧ CallsEs g es
  | .callG c es => CallGOk g c ∧ CallsEs g es
  | .callH c e es => CallHOk g c ∧ (CallsE g e ∧ CallsEs g es)
  | .callM c _ es => CallMOk g c ∧ CallsEs g es
  | .callV f sem es => CallOk g f [] sem es.length ∧ CallsEs g es
  | .mut p _ es => MutOk g p ∧ CallsEs g es
  | .isi _ es => CallsEs g es
  | .lenI es => CallsEs g es
  | .idxT x ys e => TupOk g x ys ∧ CallsE g e
  | .cmp2 _ _ a b c => CallsE g a ∧ CallsE g b ∧ CallsE g c
  | .ite t a b => CallsE g t ∧ CallsE g a ∧ CallsE g b
  | .tup es => CallsEs g es
  | .lst es => CallsEs g es
  | .ot es => CallsEs g es
  | .ol es => CallsEs g es
  | .frz e => CallsE g e
  | .lend e => CallsE g e
  | .own p _ es => OwnOk g p ∧ CallsEs g es
  | .plugN p _ => PlugNOk g p
  | .callL c _ es fs => CallLOk g c ∧ (CallsEs g es ∧ CallsEs g fs)
  | .and_ es => CallsEs g es
  | .or_ es => CallsEs g es
  | .not_ e => CallsE g e
  | .lc _ k src cs elt => g.calm = true ∧ ItKOk g k ∧ CallsEs g src ∧ CallsEs g cs ∧ CallsE g elt
  | _ => True
def CallsEs (g : Gx) : List E → Prop
  | [] => True
  | e :: es => CallsE g e ∧ CallsEs g es
end
def plainT : Expr → Bool
  | .Name _ _ => true | .Call _ _ _ _ => true | .Subscript _ _ _ => true
  | _ => false
def visB (sc : Scope) (x : Str) : Bool := (match sc.names.lookup x with
  | some .local => true | some .cell => true | some .free => true | _ => false) && !(x == ("__debug__" : Str)) && !(x == ("__classdict__" : Str))
def locB (sc : Scope) (x : Str) : Bool := match sc.names.lookup x with
  | some .local => true | some .cell => true | _ => false
def nameB (N : List Str) (sc : Scope) (i : Nat) : Expr → Bool
  | .Name x _ => decide (N[i]? = some x) && visB sc x
  | _ => false
def lclB (sc : Scope) (x : Str) : Bool := match sc.names.lookup x with
  | some .local => true | _ => false
/-- the names of a target, slot by slot -/
def tgOne (N : List Str) (ok : Str → Bool) (i : Nat) : Expr → Option (List (Str × Nat))
  | .Name x _ => if N[i]? = some x && ok x then some [(x, i)] else none
  | _ => none
def tgMany (N : List Str) (ok : Str → Bool) : List Nat → List Expr → Option (List (Str × Nat))
  | [], [] => some []
  | i :: is, e :: es => match tgOne N ok i e, tgMany N ok is es with
    | some a, some b => some (a ++ b)
    | _, _ => none
  | _, _ => none
def tgNames (N : List Str) (ok : Str → Bool) : Tg → Expr → Option (List (Str × Nat))
  | .one i, e => tgOne N ok i e
  | .tup is, .Tuple es _ _ => tgMany N ok is es
  | .tup _, _ => none
/-- the operands of what a loop goes through -/
def itOpnds (k : ItK) (sc : Scope) (tg it : Expr) : Option (List Expr) := match k with
  | .rng1 => (match it with
    | .Call (.Name x _) [a] [] _ => if x = "range" && (glName sc x && notStar a) then some [a] else none
    | _ => none)
  | .rng2 => (match it with
    | .Call (.Name x _) [a, b] [] _ => if x = "range" && (glName sc x && (notStar a && notStar b)) then some [a, b] else none
    | _ => none)
  | .seq => if notSet it then some [it] else none
  | .own p => if notSet it then p.sx sc tg it else none
  | _ => none
def zOp (p : Prim) (op : CmpOp) : Bool := decide ((p = .lt ∧ op = .Lt) ∨ (p = .le ∧ op = .LtE))
def namesN (N : List Str) (sc : Scope) : List Nat → List Expr → Bool
  | [], xs => xs.isEmpty
  | j :: js, xs => (match xs with | x :: r => nameB N sc j x && namesN N sc js r | [] => false)
mutual
def chkE (N : List Str) : E → Scope → Expr → Bool
  | .var i, sc, x => nameB N sc i x
  | .mv i, sc, x => nameB N sc i x
  | .non, _, x => (match x with | .Constant .none _ _ => true | _ => false)
  | .bl b, _, x => (match x with | .Constant (.bool c) _ _ => b == c | _ => false)
  | .int i, _, x => (match x with | .Constant (.int j) _ _ => decide (i = j) | _ => false)
  | .str s, _, x => (match x with | .Constant (.str t) _ _ => decide (s = t) | _ => false)
  | .glob n _, sc, x => (match x with | .Name m _ => decide (n = m) && glName sc n | _ => false)
  | .prim p es, sc, x => (match opnds p sc x with | some xs => chkEs N es sc xs | none => false)
  | .isi t es, sc, x => (match x with | .Call (.Name f _) [a, .Name u _] [] _ => decide (f = "isinstance") && (decide (t = u) && (glName sc f && (glName sc u && (notStar a && (decide (u ∈ biNames) && chkEs N es sc [a]))))) | _ => false)
  | .plug p es, sc, x => (match p.sx sc x with | some xs => chkEs N es sc xs | none => false)
  | .plugT p es, sc, x => (match p.sx sc x with | some xs => chkEs N es sc xs | none => false)
  | .callG c es, sc, x => (match c.sx sc x with | some xs => chkEs N es sc xs | none => false)
  | .callH c e es, sc, x => (match c.sx sc x with | some (o, xs) => chkE N e sc o && chkEs N es sc xs | none => false)
  | .callM c i es, sc, x => (match c.sx sc x with | some (o, xs) => nameB N sc i o && chkEs N es sc xs | none => false)
  | .callV f _ es, sc, x => (match x with | .Call (.Name m _) xs [] _ => decide (f = m) && (glName sc f && (xs.all notStar && (!xs.isEmpty && chkEs N es sc xs))) | _ => false)
  | .mut p i es, sc, x => (match x with | .Call (.Attribute o m ap) xs [] cp => nameB N sc i o && (decide (m = p.nm) && (decide (xs.length ≤ 2) && (xs.all notStar && (ap.endLine == cp.line && chkEs N es sc xs)))) | _ => false)
  | .idxT y _ e, sc, x => (match x with | .Call (.Attribute (.Name m _) f ap) [a] [] cp => decide (m = y) && (glName sc y && (decide (f = "index") && (notStar a && (ap.endLine == cp.line && chkE N e sc a)))) | _ => false)
  | .lenI es, sc, x => (match x with | .Call (.Name f _) [.Subscript a b _] [] _ => decide (f = "len") && (glName sc f && (notSlice b && chkEs N es sc [a, b])) | _ => false)
  | .cmp2 p q a b c, sc, x => (match x with | .Compare x1 [o1, o2] [x2, x3] _ => zOp p o1 && (zOp q o2 && (notSet x3 && (chkE N a sc x1 && (chkE N b sc x2 && chkE N c sc x3)))) | _ => false)
  | .ite t a b, sc, x => (match x with | .IfExp c x1 x2 _ => chkT N t sc c && (chkE N a sc x1 && chkE N b sc x2) | _ => false)
  | .tup es, sc, x => (match x with | .Tuple xs _ _ => xs.all notStar && chkEs N es sc xs | _ => false)
  | .lst es, sc, x => (match x with | .List xs _ => xs.all notStar && chkEs N es sc xs | _ => false)
  | .ot es, sc, x => (match x with | .Tuple xs _ _ => xs.all notStar && chkEs N es sc xs | _ => false)
  | .ol es, sc, x => (match x with | .List xs _ => xs.all notStar && chkEs N es sc xs | _ => false)
  | .frz e, sc, x => chkE N e sc x
  | .lend e, sc, x => chkE N e sc x
  | .own p i es, sc, x => (match p.sx sc x with | some (o, xs) => nameB N sc i o && chkEs N es sc xs | none => false)
  | .plugN p js, sc, x => (match p.sx sc x with | some xs => namesN N sc js xs | none => false)
  | .callL c i es fs, sc, x => (match c.sx sc x with | some (o, xs, ys) => nameB N sc i o && (chkEs N es sc xs && chkEs N fs sc ys) | none => false)
  | .and_ es, sc, x => (match x with | .BoolOp .And xs _ => chkEs N es sc xs && !xs.isEmpty | _ => false)
  | .or_ es, sc, x => (match x with | .BoolOp .Or xs _ => chkEs N es sc xs && !xs.isEmpty | _ => false)
  | .not_ e, sc, x => (match x with | .UnaryOp .Not a _ => chkE N e sc a | _ => false)
  | .call f _ _ es, sc, x => (match x with | .Call (.Name m _) xs [] _ => decide (f = m) && (glName sc f && (xs.all notStar && (!xs.isEmpty && chkEs N es sc xs))) | _ => false)
  | .lc g k src cs elt, sc, x => (match x with
    | .ListComp el [⟨tg, it, ifs, 0⟩] scope _ => (match tgNames N (lclB scope) g tg, itOpnds k sc tg it with
      | some own, some xs => chkEs N src sc xs && (blkC N sc scope own && (chkTs N cs (relS scope sc) ifs && (chkE N elt (relS scope sc) el && decide (ifs.length ≤ 1))))
      | _, _ => false)
    | _ => false)
def chkEs (N : List Str) : List E → Scope → List Expr → Bool
  | [], _, xs => xs.isEmpty
  | e :: es, sc, xs => (match xs with | x :: xr => chkE N e sc x && chkEs N es sc xr | [] => false)
def chkT (N : List Str) : E → Scope → Expr → Bool
  | .and_ es, sc, x => (match x with | .BoolOp .And xs _ => chkTs N es sc xs && !xs.isEmpty | _ => false)
  | .or_ es, sc, x => (match x with | .BoolOp .Or xs _ => chkTs N es sc xs && !xs.isEmpty | _ => false)
  | .not_ e, sc, x => (match x with | .UnaryOp .Not a _ => chkT N e sc a | _ => false)
  | .lend e, sc, x => chkT N e sc x
  | .var i, sc, x => nameB N sc i x
  | .prim p es, sc, x => ((cmpOp? p).isSome || plainT x) && (match opnds p sc x with | some xs => chkEs N es sc xs | none => false)
  | .isi t es, sc, x => (match x with | .Call (.Name f _) [a, .Name u _] [] _ => decide (f = "isinstance") && (decide (t = u) && (glName sc f && (glName sc u && (notStar a && (decide (u ∈ biNames) && chkEs N es sc [a]))))) | _ => false)
  | .call f _ _ es, sc, x => (match x with | .Call (.Name m _) xs [] _ => decide (f = m) && (glName sc f && (xs.all notStar && (!xs.isEmpty && chkEs N es sc xs))) | _ => false)
  | .cmp2 p q a b c, sc, x => (match x with | .Compare x1 [o1, o2] [x2, x3] _ => zOp p o1 && (zOp q o2 && (notSet x3 && (chkE N a sc x1 && (chkE N b sc x2 && chkE N c sc x3)))) | _ => false)
  | .plug p es, sc, x => plainT x && (match p.sx sc x with | some xs => chkEs N es sc xs | none => false)
  | .plugT p es, sc, x => (match p.sx sc x with | some xs => chkEs N es sc xs | none => false)
  | .callG c es, sc, x => plainT x && (match c.sx sc x with | some xs => chkEs N es sc xs | none => false)
  | .callH c e es, sc, x => plainT x && (match c.sx sc x with | some (o, xs) => chkE N e sc o && chkEs N es sc xs | none => false)
  | .callM c i es, sc, x => plainT x && (match c.sx sc x with | some (o, xs) => nameB N sc i o && chkEs N es sc xs | none => false)
  | _, _, _ => false
def chkTs (N : List Str) : List E → Scope → List Expr → Bool
  | [], _, xs => xs.isEmpty
  | e :: es, sc, xs => (match xs with | x :: xr => chkT N e sc x && chkTs N es sc xr | [] => false)
end
end DV
namespace DV
open PySem PySem.Spec PyProof.Rows L2
section
variable {X : Cx} {W : WX}
theorem EPost.here {g : Gl} {F H : Hp} {σ : St} {ρ : Ev} {fp : Nat → List Addr} {d : D} {Q : VK} {v : V} (h : EPost g F H σ fp ρ (.p d) Q) (S : SOK g F H σ ρ fp) (r : RepD g F d v) : Q v H :=
  h v F H fp [] (Step.refl S.sub) S (fun _ q => .inl q) (by unfold RepO; exact ⟨r, rfl⟩) List.nodup_nil (by simp)
theorem name_of {N : List Str} {i : Nat} {x : Expr} {sc : Scope} (h : nameB N sc i x = true) : ∃ n pos, x = .Name n pos ∧ N[i]? = some n ∧ Vis sc n ∧ (n == ("__debug__" : Str)) = false ∧ (n == ("__classdict__" : Str)) = false := by
  unfold nameB at h
  split at h
  · rename_i n pos
    simp only [Bool.and_eq_true, decide_eq_true_eq, visB, Bool.not_eq_true'] at h
    obtain ⟨h1, ⟨h2, h3⟩, h4⟩ := h
    refine ⟨n, pos, rfl, h1, ?_, h3, h4⟩
    unfold Vis
    split at h2
    · exact .inl ‹_›
    · exact .inr (.inl ‹_›)
    · exact .inr (.inr ‹_›)
    · cases h2
  · cases h
theorem pe_name {i : Nat} {x : Expr} (h : nameB X.N X.env.scope i x = true) : PE X x (tVar i) := by
  obtain ⟨n, pos, rfl, h1, h2, h3, h4⟩ := name_of h
  exact pe_var h1 h2 h3 h4
theorem sound_var {i : Nat} {x : Expr} (h : nameB X.N X.env.scope i x = true) : SoundE X W x (evE (.var i)) := fun σ ρ F H fp r ρ' Q S e q => by
  simp only [evE] at e
  split at e
  · rename_i d e1
    cases e
    obtain ⟨v, hv, rv⟩ := S.at_ i _ e1
    exact wpe_of (pe_name h) ⟨v, hv, EPost.here q S (repO_p rv)⟩
  · cases e
theorem sound_mv {i : Nat} {x : Expr} (h : nameB X.N X.env.scope i x = true) : SoundE X W x (evE (.mv i)) := fun σ ρ F H fp r ρ' Q S e q => by
  simp only [evE] at e
  split at e
  · rename_i o e1
    cases e
    obtain ⟨v, hv, rv⟩ := S.at_ i _ e1
    exact wpe_of (pe_name h) ⟨v, hv, q v F H _ (fp i) (Step.refl S.sub) (S.hide i) (fun a z => .inl (own_hide z)) rv (S.nd i) fun a ha => ⟨.inl ⟨i, ha⟩, S.hide_no ha⟩⟩
  · cases e
theorem sound_const {x : Expr} {ev : Ev → Res O} {d : D} {v : V} (hp : PE X x (tC v)) (hr : ∀ F, RepD (gl X) F d v) (hev : ∀ ρ, ev ρ = some (.ok (.p d), ρ)) : SoundE X W x ev := fun σ ρ F H fp r ρ' Q S e q => by
  rw [hev] at e
  cases e
  exact wpe_of hp (EPost.here q S (hr F))
theorem sound_prim {p : Prim} {es : List E} {x : Expr} {xs : List Expr} (B : XOK X) (hcl : ncalm p = true → X.calm = true) (ho : opnds p X.env.scope x = some xs) (h : SoundOs X W xs (evOs es)) : SoundE X W x (evE (.prim p es)) := fun σ ρ F H fp r ρ' Q S e q => by
  simp only [evE] at e
  split at e
  · rename_i qs ρ1 e1
    split at e
    · rename_i os e2
      split at e
      · rename_i o e3
        cases e
        refine primOk B p hcl ho (h σ ρ F H fp _ ρ' _ S e1 fun vs F1 H1 fp1 s1 S1 n1 rs => ?_)
        exact ⟨F1, os, o, S1.sub, vws_rep S1 rs e2, e3, EPost.pp q s1 S1 n1⟩
      · cases e
    · cases e
  · rename_i z ρ1 e1
    cases e
    exact primOk B p hcl ho (h σ ρ F H fp _ ρ' _ S e1 q)
  · cases e
theorem sound_plug {p : Plug} {es : List E} {x : Expr} {xs : List Expr} (B : XOK X) (hp : PlugOk (gx X) p) (ho : p.sx X.env.scope x = some xs) (h : SoundOs X W xs (evOs es)) : SoundE X W x (evE (.plug p es)) := fun σ ρ F H fp r ρ' Q S e q => by
  rw [evE] at e
  cases e1 : evOs es ρ with
  | none => rw [e1] at e; cases e
  | some z =>
    obtain ⟨r1, ρ1⟩ := z
    rw [e1] at e
    cases r1 with
    | ex z =>
      cases e
      exact hp.run rfl B ho (h σ ρ F H fp _ ρ' _ S e1 q)
    | ok qs =>
      simp only [plugB] at e
      cases e2 : vws ρ1 qs with
      | none => rw [e2] at e; cases e
      | some os =>
        rw [e2] at e
        simp only [plugC] at e
        cases e3 : p.ev os with
        | none => rw [e3] at e; cases e
        | some o =>
          rw [e3] at e
          cases e
          refine hp.run rfl B ho (h σ ρ F H fp _ ρ' _ S e1 fun vs F1 H1 fp1 s1 S1 n1 rs => ?_)
          exact ⟨F1, os, o, S1.sub, vws_rep S1 rs e2, e3, EPost.pp q s1 S1 n1⟩
theorem names_pe : ∀ {js : List Nat} {xs : List Expr}, namesN X.N X.env.scope js xs = true → NmsPE X js xs
  | [], xs, h => by
    unfold namesN at h
    unfold NmsPE
    exact List.isEmpty_iff.mp h
  | j :: js, [], h => by unfold namesN at h; cases h
  | j :: js, x :: r, h => by
    unfold namesN at h
    simp only [Bool.and_eq_true] at h
    obtain ⟨n, pos, e, _⟩ := name_of h.1
    unfold NmsPE
    exact ⟨x, r, rfl, pe_name h.1, by rw [e]; rfl, fun l => by rw [e]; rfl, names_pe h.2⟩
theorem slots_rep {g : Gl} {F H : Hp} {σ : St} {ρ : Ev} {fp : Nat → List Addr} (S : SOK g F H σ ρ fp) : ∀ {js : List Nat} {os : List O}, vws ρ (js.map .sl) = some os → ∃ vs, OpdsRep g (fun _ => none) σ (js.map .sl) vs ∧ OpdsRep g F σ (js.map .sl) vs
  | [], os, h => ⟨[], by show OpdsRep _ _ _ [] []; unfold OpdsRep; rfl, by show OpdsRep _ _ _ [] []; unfold OpdsRep; rfl⟩
  | j :: js, os, h => by
    simp only [List.map_cons, vws] at h
    cases e1 : (Opd.sl j).vw ρ with
    | none => rw [e1] at h; cases h
    | some o =>
      cases e2 : vws ρ (js.map .sl) with
      | none => rw [e1, e2] at h; cases h
      | some os2 =>
        have e3 : ρ[j]? = some (some o) := by
          unfold Opd.vw at e1
          dsimp only at e1
          cases z : ρ[j]? with
          | none => rw [z] at e1; cases e1
          | some w =>
            cases w with
            | none => rw [z] at e1; cases e1
            | some w => rw [z] at e1; rw [Option.some.inj e1]
        obtain ⟨v, hv, _⟩ := S.at_ j o e3
        obtain ⟨vs, h1, h2⟩ := slots_rep S e2
        refine ⟨v :: vs, ?_, ?_⟩
        · show OpdsRep _ _ _ (Opd.sl j :: js.map .sl) _
          unfold OpdsRep
          exact ⟨v, vs, rfl, hv, h1⟩
        · show OpdsRep _ _ _ (Opd.sl j :: js.map .sl) _
          unfold OpdsRep
          exact ⟨v, vs, rfl, hv, h2⟩
theorem sound_plugN {p : Plug} {js : List Nat} {x : Expr} {xs : List Expr} (B : XOK X) (hp : PlugNOk (gx X) p) (ho : p.sx X.env.scope x = some xs) (hn : namesN X.N X.env.scope js xs = true) : SoundE X W x (evE (.plugN p js)) := fun σ ρ F H fp r ρ' Q S e q => by
  rw [evE] at e
  cases e2 : vws ρ (js.map .sl) with
  | none => rw [e2] at e; cases e
  | some os =>
    rw [e2] at e
    simp only [plugC] at e
    cases e3 : p.ev os with
    | none => rw [e3] at e; cases e
    | some o =>
      rw [e3] at e
      cases e
      obtain ⟨vs, h1, h2⟩ := slots_rep S e2
      exact hp.run rfl B ho (names_pe hn) h1 ⟨F, os, o, S.sub, vws_rep S h2 e2, e3, EPost.pp q (Step.refl S.sub) S fun a z => .inl z⟩
theorem sound_plugT {p : Plug} {es : List E} {x : Expr} {xs : List Expr} (B : XOK X) (hp : PlugTOk (gx X) p) (ho : p.sx X.env.scope x = some xs) (h : SoundOs X W xs (evOs es)) : SoundE X W x (evE (.plugT p es)) := fun σ ρ F H fp r ρ' Q S e q => by
  rw [evE] at e
  exact sound_plug B hp.val ho h σ ρ F H fp r ρ' Q S (by rw [evE]; exact e) q
def EsPost (g : Gl) (F H : Hp) (σ : St) (fp : Nat → List Addr) (ρ' : Ev) (os : List O) (Q : List V → Hp → Prop) : Prop :=
  ∀ vs F' H' fp' fr, Step F H (Own fp) F' H' → SOK g F' H' σ ρ' fp' → (∀ a, Own fp' a → Own fp a ∨ H a = none) → RepOs g F' H' os vs fr → fr.Nodup → (∀ a ∈ fr, (Own fp a ∨ H a = none) ∧ ¬ Own fp' a) → Q vs H'
def REs (g : Gl) (F H : Hp) (σ : St) (fp : Nat → List Addr) (W : WX) (Q : List V → Hp → Prop) (ρ' : Ev) : R (List O) → Prop
  | .ok os => EsPost g F H σ fp ρ' os Q
  | .ex x => XPost g F H σ fp ρ' x W
def SoundEs (X : Cx) (W : WX) (xs : List Expr) (ev : Ev → Res (List O)) : Prop := ∀ σ ρ F H fp r ρ' Q, SOK (gl X) F H σ ρ fp → ev ρ = some (r, ρ') → REs (gl X) F H σ fp W Q ρ' r → WPEs X xs σ H Q
theorem soundEs_nil : SoundEs X W [] (evEs []) := fun σ ρ F H fp r ρ' Q S e q => by
  simp only [evEs] at e
  cases e
  exact q [] F H fp [] (Step.refl S.sub) S (fun a z => .inl z) (by unfold RepOs; exact ⟨rfl, rfl⟩) List.nodup_nil (by simp)
theorem RepOs.stay {g : Gl} {F H F' H' : Hp} {own : Addr → Prop} {o : List O} {v : List V} {as : List Addr} (s : Step F H own F' H') (r : RepOs g F H o v as) (n : ∀ a ∈ as, ¬ own a) : RepOs g F' H' o v as := by
  refine r.mono s.mono fun a ha => ?_
  obtain ⟨f, u, hu⟩ := r.own a ha
  refine ⟨?_, fun w hw => s.keep a w hw (n a ha)⟩
  rcases none_or (H := F') a with z | ⟨w, z⟩
  · exact z
  · rcases s.newF a w z with q | q | q
    · rw [f] at q; cases q
    · rw [hu] at q; cases q
    · exact absurd q (n a ha)
theorem soundEs_cons {e : E} {es : List E} {x : Expr} {xs : List Expr} (h1 : SoundE X W x (evE e)) (h2 : SoundEs X W xs (evEs es)) : SoundEs X W (x :: xs) (evEs (e :: es)) := fun σ ρ F H fp r ρ' Q S ev q => by
  simp only [evEs] at ev
  split at ev
  · rename_i o ρ1 e1
    refine h1 σ ρ F H fp _ ρ1 _ S e1 fun v F1 H1 fp1 fr1 s1 S1 n1 rv nd1 nf1 => ?_
    split at ev
    · rename_i os ρ2 e2
      cases ev
      refine h2 σ ρ1 F1 H1 fp1 _ ρ' _ S1 e2 fun vs F2 H2 fp2 fr2 s2 S2 n2 rvs nd2 nf2 => ?_
      refine q (v :: vs) F2 H2 fp2 (fr1 ++ fr2) (s1.trans s2 n1) S2 (own_trans s1 n1 n2) ?_ ?_ fun a ha => ?_
      · unfold RepOs
        exact ⟨v, vs, fr1, fr2, rfl, rfl, rv.stay s2 fun a ha => (nf1 a ha).2, rvs⟩
      · refine List.nodup_append.mpr ⟨nd1, nd2, fun a ha b hb z => ?_⟩
        subst z
        rcases (nf2 a hb).1 with z | z
        · exact (nf1 a ha).2 z
        · obtain ⟨_, u, hu⟩ := rv.own a ha
          rw [z] at hu; cases hu
      · rcases List.mem_append.mp ha with ha | ha
        · refine ⟨(nf1 a ha).1, fun z => ?_⟩
          rcases n2 a z with z | z
          · exact (nf1 a ha).2 z
          · obtain ⟨_, u, hu⟩ := rv.own a ha
            rw [z] at hu; cases hu
        · refine ⟨?_, (nf2 a ha).2⟩
          exact own_trans s1 n1 (own2 := fun b => b ∈ fr2) (fun b hb => (nf2 b hb).1) a ha
    · rename_i z ρ2 e2
      cases ev
      exact h2 σ ρ1 F1 H1 fp1 _ ρ' _ S1 e2 (XPost.after s1 n1 q)
    · cases ev
  · rename_i z ρ1 e1
    cases ev
    exact h1 σ ρ F H fp _ ρ' _ S e1 q
  · cases ev
theorem pures_rep {g : Gl} {F H : Hp} : ∀ {os : List O} {ds : List D} {vs : List V} {as : List Addr}, pures os = some ds → RepOs g F H os vs as → RepDs g F ds vs ∧ as = []
  | [], ds, vs, as, e, r => by
    cases e
    unfold RepOs at r
    unfold RepDs
    exact r
  | o :: os, ds, vs, as, e, r => by
    unfold RepOs at r
    obtain ⟨v, w, a1, a2, rfl, rfl, r1, r2⟩ := r
    cases o with
    | p d =>
      have e2 : (pures os).map (d :: ·) = some ds := e
      cases e3 : pures os with
      | none => rw [e3] at e2; cases e2
      | some ds' =>
        rw [e3] at e2
        cases e2
        obtain ⟨h1, h2⟩ := pures_rep e3 r2
        unfold RepO at r1
        obtain ⟨h3, h4⟩ := r1
        unfold RepDs
        exact ⟨⟨v, w, rfl, h3, h1⟩, by rw [h2, h4]; rfl⟩
    | _ => cases e
theorem pa_wps : ∀ {xs : List Expr}, xs.all notStar = true → PA X xs (WPEs X xs)
  | [], _ => pa_nil
  | x :: xs, h => by
    rw [List.all_cons, Bool.and_eq_true] at h
    exact pa_cons pe_wp (pa_wps h.2) (starEach_cons h.1)
theorem sound_tup {es : List E} {xs : List Expr} {k : Nat} {pos : Pos} (hs : xs.all notStar = true) (h : SoundEs X W xs (evEs es)) : SoundE X W (.Tuple xs k pos) (evE (.tup es)) := fun σ ρ F H fp r ρ' Q S e q => by
  simp only [evE] at e
  split at e
  · rename_i os ρ1 e1
    split at e
    · rename_i ds e2
      split at e
      · cases e
        refine wpe_of (pe_tup (pa_wps hs)) (h σ ρ F H fp _ ρ' _ S e1 fun vs F1 H1 fp1 fr s1 S1 n1 rvs nd nf => ?_)
        obtain ⟨rd, rfl⟩ := pures_rep e2 rvs
        exact ⟨by rw [← rd.length]; assumption, fun p hp => (EPost.pp q s1 S1 n1).newTup S1.sub rd hp⟩
      · cases e
    · cases e
  · rename_i z ρ1 e1
    cases e
    exact wpe_of (pe_tup (pa_wps hs)) (h σ ρ F H fp _ ρ' _ S e1 q)
  · cases e
theorem sound_lst {es : List E} {xs : List Expr} {pos : Pos} (hs : xs.all notStar = true) (h : SoundEs X W xs (evEs es)) : SoundE X W (.List xs pos) (evE (.lst es)) := fun σ ρ F H fp r ρ' Q S e q => by
  simp only [evE] at e
  split at e
  · rename_i os ρ1 e1
    split at e
    · rename_i ds e2
      split at e
      · cases e
        refine wpe_of (pe_lst (pa_wps hs)) (h σ ρ F H fp _ ρ' _ S e1 fun vs F1 H1 fp1 fr s1 S1 n1 rvs nd nf => ?_)
        obtain ⟨rd, rfl⟩ := pures_rep e2 rvs
        exact ⟨by rw [← rd.length]; assumption, fun p hp => (EPost.pp q s1 S1 n1).newLst S1.sub rd hp⟩
      · cases e
    · cases e
  · rename_i z ρ1 e1
    cases e
    exact wpe_of (pe_lst (pa_wps hs)) (h σ ρ F H fp _ ρ' _ S e1 q)
  · cases e
theorem step_new {F H : Hp} {own : Addr → Prop} {p : Addr} {u : HO} (s : Sub F H) (n : H p = none) : Step F H own (upd F p u) (upd H p u) :=
  ⟨upd_sub (Sub.refl F) (sub_none s n), upd_sub2 s n, fun a o e _ => upd_keep n a o e, fun a o e => by
    by_cases q : a = p
    · rw [q]; exact .inr (.inl n)
    · rw [upd_ne q] at e; exact .inl e⟩
theorem step_newH {F H : Hp} {own : Addr → Prop} {p : Addr} {u : HO} (s : Sub F H) (n : H p = none) : Step F H own F (upd H p u) :=
  ⟨Sub.refl F, upd_sub s n, fun a o e _ => upd_keep n a o e, fun a o e => .inl e⟩
theorem sound_ot {es : List E} {xs : List Expr} {k : Nat} {pos : Pos} (hs : xs.all notStar = true) (h : SoundEs X W xs (evEs es)) : SoundE X W (.Tuple xs k pos) (evE (.ot es)) := fun σ ρ F H fp r ρ' Q S e q => by
  simp only [evE] at e
  split at e
  · rename_i os ρ1 e1
    split at e
    · cases e
      refine wpe_of (pe_tup (pa_wps hs)) (h σ ρ F H fp _ ρ' _ S e1 fun vs F1 H1 fp1 fr s1 S1 n1 rvs nd nf => ?_)
      refine ⟨by rw [← rvs.length]; assumption, fun p hp => ?_⟩
      have s2 : Step F1 H1 (fun _ => False) (upd F1 p (.tup vs)) (upd H1 p (.tup vs)) := step_new S1.sub hp
      refine q (.ref p) _ _ fp1 fr (s1.trans s2 fun _ z => z.elim) (S1.stay s2 fun _ _ z => z) n1 ?_ nd nf
      unfold RepO
      exact ⟨p, vs, rfl, .inl (.inl upd_same), rvs.stay s2 fun _ _ z => z⟩
    · cases e
  · rename_i z ρ1 e1
    cases e
    exact wpe_of (pe_tup (pa_wps hs)) (h σ ρ F H fp _ ρ' _ S e1 q)
  · cases e
theorem fresh_of {F H F1 H1 : Hp} {own : Addr → Prop} (s : Step F H own F1 H1) {p : Addr} (h : H1 p = none) : own p ∨ H p = none := by
  by_cases hc : own p
  · exact .inl hc
  · rcases none_or (H := H) p with z | ⟨u, z⟩
    · exact .inr z
    · rw [s.keep p u z hc] at h; cases h
theorem SOK.not_own {g : Gl} {F H : Hp} {σ : St} {ρ : Ev} {fp : Nat → List Addr} (S : SOK g F H σ ρ fp) {p : Addr} (h : H p = none) : ¬ Own fp p := fun q => by
  obtain ⟨_, u, hu⟩ := S.own q
  rw [h] at hu; cases hu
theorem sound_ol {es : List E} {xs : List Expr} {pos : Pos} (hs : xs.all notStar = true) (h : SoundEs X W xs (evEs es)) : SoundE X W (.List xs pos) (evE (.ol es)) := fun σ ρ F H fp r ρ' Q S e q => by
  simp only [evE] at e
  split at e
  · rename_i os ρ1 e1
    split at e
    · cases e
      refine wpe_of (pe_lst (pa_wps hs)) (h σ ρ F H fp _ ρ' _ S e1 fun vs F1 H1 fp1 fr s1 S1 n1 rvs nd nf => ?_)
      refine ⟨by rw [← rvs.length]; assumption, fun p hp => ?_⟩
      have s2 : Step F1 H1 (fun _ => False) F1 (upd H1 p (.lst vs)) := step_newH S1.sub hp
      refine q (.ref p) _ _ fp1 (p :: fr) (s1.trans s2 fun _ z => z.elim) (S1.stay s2 fun _ _ z => z) n1 ?_ (List.nodup_cons.mpr ⟨fun z => ?_, nd⟩) fun a ha => ?_
      · unfold RepO
        exact ⟨p, vs, fr, rfl, rfl, sub_none S1.sub hp, upd_same, rvs.stay s2 fun _ _ z => z⟩
      · obtain ⟨_, u, hu⟩ := rvs.own p z
        rw [hp] at hu; cases hu
      · rcases List.mem_cons.mp ha with z | z
        · subst z
          exact ⟨fresh_of s1 hp, S1.not_own hp⟩
        · exact nf a z
    · cases e
  · rename_i z ρ1 e1
    cases e
    exact wpe_of (pe_lst (pa_wps hs)) (h σ ρ F H fp _ ρ' _ S e1 q)
  · cases e
theorem sound_frz {e : E} {x : Expr} (h : SoundE X W x (evE e)) : SoundE X W x (evE (.frz e)) := fun σ ρ F H fp r ρ' Q S ev q => by
  simp only [evE] at ev
  split at ev
  · rename_i o ρ1 e1
    cases ev
    refine h σ ρ F H fp _ ρ' _ S e1 fun v F1 H1 fp1 fr s1 S1 n1 rv nd nf => ?_
    have sF : Step F1 H1 (fun a => a ∈ fr) (frzF F1 H1 fr) H1 := Step.freeze S1.sub (fun a ha => (rv.own a ha).1) fun a ha => ha
    have S1' : SOK (gl X) (frzF F1 H1 fr) H1 σ ρ' fp1 := S1.stay sF fun a ha hf => (nf a hf).2 ha
    have s1' : Step F H (Own fp) (frzF F1 H1 fr) H1 := s1.trans sF fun a ha => (nf a ha).1
    exact q v _ H1 fp1 [] s1' S1' n1 (by unfold RepO; exact ⟨rv.freeze S1.sub, rfl⟩) List.nodup_nil (by simp)
  · rename_i z ρ1 e1
    cases ev
    exact h σ ρ F H fp _ ρ' _ S e1 q
  · cases ev
def owns (σ : St) (fp : Nat → List Addr) : List Addr := (List.range σ.length).flatMap fp
theorem own_owns {g : Gl} {F H : Hp} {σ : St} {ρ : Ev} {fp : Nat → List Addr} (S : SOK g F H σ ρ fp) {a : Addr} (h : Own fp a) : a ∈ owns σ fp := by
  obtain ⟨i, hi⟩ := h
  refine List.mem_flatMap.mpr ⟨i, List.mem_range.mpr ?_, hi⟩
  apply Classical.byContradiction
  intro hn
  have e : fp i = [] := S.emp i fun o z => by
    have := (List.getElem?_eq_some_iff.mp z).1
    have := S.len
    omega
  rw [e] at hi
  exact absurd hi List.not_mem_nil
theorem owns_none {g : Gl} {F H : Hp} {σ : St} {ρ : Ev} {fp : Nat → List Addr} (S : SOK g F H σ ρ fp) : ∀ a ∈ owns σ fp, F a = none := fun a h => by
  obtain ⟨i, _, hi⟩ := List.mem_flatMap.mp h
  exact (S.own ⟨i, hi⟩).1
theorem view_sok {g : Gl} {F H : Hp} {σ : St} {ρ : Ev} {fp : Nat → List Addr} (S : SOK g F H σ ρ fp) : SOK g (frzF F H (owns σ fp)) H σ (viewE ρ) (fun _ => []) := by
  refine ⟨frzF_sub S.sub, by unfold viewE; rw [List.length_map]; exact S.len, fun i o h => ?_, fun _ => List.nodup_nil, fun i j a h => absurd h List.not_mem_nil, fun _ _ => rfl⟩
  unfold viewE at h
  rw [List.getElem?_map] at h
  cases e : ρ[i]? with
  | none => rw [e] at h; cases h
  | some q =>
    rw [e] at h
    cases q with
    | none => cases h
    | some o0 =>
      cases h
      obtain ⟨v, h1, h2⟩ := S.at_ i o0 e
      refine ⟨v, h1, ?_⟩
      unfold RepO
      refine ⟨h2.view (frzF_mono (owns_none S)) fun a ha u hu => ?_, rfl⟩
      unfold frzF
      rw [if_pos (own_owns S ⟨i, ha⟩)]
      exact hu
theorem lend_step {F H F1 H1 : Hp} {fr : List Addr} (s : Sub F H) (n : ∀ a ∈ fr, F a = none) (s1 : Step (frzF F H fr) H (Own fun _ => []) F1 H1) : Step F H (fun _ => False) F H1 :=
  ⟨Sub.refl F, (frzF_mono n).trans (s1.mono.trans s1.sub), fun a o e _ => s1.keep a o e fun ⟨_, z⟩ => absurd z List.not_mem_nil, fun a o e => .inl e⟩
theorem lend_some {ρ ρ' : Ev} {x : Res O} {r : R O} (h : lendC ρ x = some (r, ρ')) : ∃ d ρ1, x = some (.ok (.p d), ρ1) ∧ flatD d = true ∧ r = .ok (.p d) ∧ ρ' = ρ := by
  unfold lendC at h
  split at h
  · rename_i d ρ1
    split at h
    · rename_i hd
      cases h
      exact ⟨d, ρ1, rfl, hd, rfl, rfl⟩
    · cases h
  · cases h
mutual
theorem flat_rep {g : Gl} {F F' : Hp} (hF : ∀ a vs, Rd F a (.tup vs) → Rd F' a (.tup vs)) : ∀ {d : D} {v : V}, flatD d = true → RepD g F d v → RepD g F' d v
  | .non, _, _, r => by unfold RepD at r ⊢; exact r
  | .bl _, _, _, r => by unfold RepD at r ⊢; exact r
  | .int _, _, _, r => by unfold RepD at r ⊢; exact r
  | .str _, _, _, r => by unfold RepD at r ⊢; exact r
  | .tup ds, v, h, r => by
    unfold flatD at h
    unfold RepD at r ⊢
    obtain ⟨a, vs, e, q, r⟩ := r
    exact ⟨a, vs, e, q.imp (hF a vs) id, flats_rep hF h r⟩
  | .lst _, _, h, _ => by unfold flatD at h; cases h
  | .dct _ _, _, h, _ => by unfold flatD at h; cases h
  | .ins _ _ _, _, h, _ => by unfold flatD at h; cases h
  | .exc _ _ _, _, h, _ => by unfold flatD at h; cases h
theorem flats_rep {g : Gl} {F F' : Hp} (hF : ∀ a vs, Rd F a (.tup vs) → Rd F' a (.tup vs)) : ∀ {ds : List D} {vs : List V}, flatDs ds = true → RepDs g F ds vs → RepDs g F' ds vs
  | [], _, _, r => by unfold RepDs at r ⊢; exact r
  | d :: ds, vs, h, r => by
    unfold flatDs at h
    rw [Bool.and_eq_true] at h
    unfold RepDs at r ⊢
    obtain ⟨v, w, e, r1, r2⟩ := r
    exact ⟨v, w, e, flat_rep hF h.1 r1, flats_rep hF h.2 r2⟩
end
/-- no tuple -/
def NT (u : HO) : Prop := (∀ vs, u ≠ .tup vs) ∧ ∀ o vs, u ≠ .frz o (.tup vs)
mutual
theorem RepO.nt {g : Gl} {F H : Hp} : ∀ {o : O} {v : V} {as : List Addr}, RepO g F H o v as → ∀ a ∈ as, ∃ u, H a = some u ∧ NT u
  | .p d, v, as, h, a, ha => by
    unfold RepO at h
    rw [h.2] at ha
    exact absurd ha (by simp)
  | .lst ds, v, as, h, a, ha => by
    unfold RepO at h
    obtain ⟨b, vs, e1, e2, n, q, r⟩ := h
    rw [e2] at ha
    have e : a = b := by simpa using ha
    subst e
    exact ⟨_, q, fun _ => nofun, fun _ _ => nofun⟩
  | .dct ks xs, v, as, h, a, ha => by
    unfold RepO at h
    obtain ⟨b, ep, es, vs, e1, e2, n, q, nk, rk, r⟩ := h
    rw [e2] at ha
    have e : a = b := by simpa using ha
    subst e
    exact ⟨_, q, fun _ => nofun, fun _ _ => nofun⟩
  | .ol os, v, as, h, a, ha => by
    unfold RepO at h
    obtain ⟨b, vs, bs, e1, e2, n, q, r⟩ := h
    rw [e2] at ha
    rcases List.mem_cons.mp ha with e | hb
    · subst e
      exact ⟨_, q, fun _ => nofun, fun _ _ => nofun⟩
    · exact RepOs.nt r a hb
  | .ot os, v, as, h, a, ha => by
    unfold RepO at h
    obtain ⟨b, vs, e1, q, r⟩ := h
    exact RepOs.nt r a ha
  | .od ks os, v, as, h, a, ha => by
    unfold RepO at h
    obtain ⟨b, ep, es, ws, bs, e1, e2, n, q, nk, rk, r⟩ := h
    rw [e2] at ha
    rcases List.mem_cons.mp ha with e | hb
    · subst e
      exact ⟨_, q, fun _ => nofun, fun _ _ => nofun⟩
    · exact RepOs.nt r a hb
  | .ob c ns os, v, as, h, a, ha => by
    unfold RepO at h
    obtain ⟨b, C, dx, vs, bs, e1, e2, n1, n2, m, q1, q2, l, r⟩ := h
    rw [e2] at ha
    rcases List.mem_cons.mp ha with e | hb
    · subst e
      exact ⟨_, q1, fun _ => nofun, fun _ _ => nofun⟩
    · rcases List.mem_cons.mp hb with e | hb
      · subst e
        exact ⟨_, q2, fun _ => nofun, fun _ _ => nofun⟩
      · exact RepOs.nt r a hb
theorem RepOs.nt {g : Gl} {F H : Hp} : ∀ {os : List O} {vs : List V} {as : List Addr}, RepOs g F H os vs as → ∀ a ∈ as, ∃ u, H a = some u ∧ NT u
  | [], _, as, h, a, ha => by
    unfold RepOs at h
    rw [h.2] at ha
    exact absurd ha (by simp)
  | o :: os, vs, as, h, a, ha => by
    unfold RepOs at h
    obtain ⟨v, r, a1, a2, e1, e2, q, t⟩ := h
    rw [e2] at ha
    rcases List.mem_append.mp ha with hb | hb
    · exact RepO.nt q a hb
    · exact RepOs.nt t a hb
end
theorem owns_nt {g : Gl} {F H : Hp} {σ : St} {ρ : Ev} {fp : Nat → List Addr} (S : SOK g F H σ ρ fp) : ∀ a ∈ owns σ fp, ∃ u, H a = some u ∧ NT u := fun a h => by
  obtain ⟨i, _, hi⟩ := List.mem_flatMap.mp h
  by_cases hn : ∃ o, ρ[i]? = some (some o)
  · obtain ⟨o, e⟩ := hn
    obtain ⟨v, h1, h2⟩ := S.at_ i o e
    exact h2.nt a hi
  · have e : fp i = [] := S.emp i fun o z => hn ⟨o, z⟩
    rw [e] at hi
    exact absurd hi List.not_mem_nil
/-- what is frozen, behind the loan -/
def unF (F1 : Hp) (fr : List Addr) : Hp := fun a => if a ∈ fr then none else F1 a
theorem unF_step {F H F1 H1 : Hp} {fr : List Addr} (s : Sub F H) (n : ∀ a ∈ fr, F a = none) (s1 : Step (frzF F H fr) H (Own fun _ => []) F1 H1) : Step F H (fun _ => False) (unF F1 fr) H1 := by
  refine ⟨fun a o e => ?_, fun a o e => ?_, fun a o e _ => s1.keep a o e fun ⟨_, z⟩ => absurd z List.not_mem_nil, fun a o e => ?_⟩
  · have hn : ¬ a ∈ fr := fun z => by rw [n a z] at e; cases e
    unfold unF
    rw [if_neg hn]
    exact s1.mono a o (frzF_mono n a o e)
  · unfold unF at e
    split at e
    · cases e
    · exact s1.sub a o e
  · unfold unF at e
    split at e
    · cases e
    · rename_i hn
      rcases s1.newF a o e with z | z | ⟨_, z⟩
      · unfold frzF at z
        rw [if_neg hn] at z
        exact .inl z
      · exact .inr (.inl z)
      · exact absurd z List.not_mem_nil
theorem unF_tup {F H F1 H1 : Hp} {fr : List Addr} (t : ∀ a ∈ fr, ∃ u, H a = some u ∧ NT u) (s1 : Step (frzF F H fr) H (Own fun _ => []) F1 H1) (a : Addr) (vs : List V) (h : Rd F1 a (.tup vs)) : Rd (unF F1 fr) a (.tup vs) := by
  have hn : ¬ a ∈ fr := fun z => by
    obtain ⟨u, h1, h2, h3⟩ := t a z
    have e : frzF F H fr a = some u := by
      unfold frzF
      rw [if_pos z]
      exact h1
    have e1 := s1.mono a u e
    rcases h with h | ⟨o, h⟩
    · rw [e1] at h
      exact h2 _ (Option.some.inj h)
    · rw [e1] at h
      exact h3 _ _ (Option.some.inj h)
  unfold Rd unF
  rw [if_neg hn]
  exact h
theorem Step.any {F H F' H' : Hp} {own : Addr → Prop} (s : Step F H (fun _ => False) F' H') : Step F H own F' H' :=
  ⟨s.mono, s.sub, fun a o e _ => s.keep a o e id, fun a o e => (s.newF a o e).elim .inl fun z => z.elim (fun z => .inr (.inl z)) False.elim⟩
theorem sound_lend {e : E} {x : Expr} (h : SoundE X W x (evE e)) : SoundE X W x (evE (.lend e)) := fun σ ρ F H fp r ρ' Q S ev q => by
  simp only [evE] at ev
  obtain ⟨d, ρ1, e1, hd, rfl, rfl⟩ := lend_some ev
  refine h σ (viewE ρ') (frzF F H (owns σ fp)) H (fun _ => []) _ ρ1 _ (view_sok S) e1 fun v F1 H1 fp1 fr s1 S1 n1 rv nd nf => ?_
  have s2 := unF_step S.sub (owns_none S) s1
  refine q v (unF F1 (owns σ fp)) H1 fp [] s2.any (S.stay s2 fun _ _ z => z) (fun a z => .inl z) ?_ List.nodup_nil (by simp)
  unfold RepO at rv ⊢
  exact ⟨flat_rep (unF_tup (owns_nt S) s1) hd rv.1, rfl⟩
theorem sound_not {e : E} {x : Expr} {pos : Pos} (h : SoundE X W x (evE e)) : SoundE X W (.UnaryOp .Not x pos) (evE (.not_ e)) := fun σ ρ F H fp r ρ' Q S ev q => by
  simp only [evE] at ev
  split at ev
  · rename_i b ρ1 e1
    cases ev
    refine wpe_of (pe_not pe_wp) (h σ ρ F H fp _ ρ' _ S e1 fun v F1 H1 fp1 fr s1 S1 n1 rv nd nf => ?_)
    exact ⟨b, (repO_p rv).bl', (EPost.pp q s1 S1 n1).sc S1.sub repD_bl⟩
  · rename_i z ρ1 e1
    cases ev
    exact wpe_of (pe_not pe_wp) (h σ ρ F H fp _ ρ' _ S e1 q)
  · cases ev
/-- from one state on -/
theorem EPost.after {g : Gl} {F H F1 H1 : Hp} {σ : St} {fp fp1 : Nat → List Addr} {ρ' : Ev} {o : O} {Q : VK} (h : EPost g F H σ fp ρ' o Q) (s : Step F H (Own fp) F1 H1) (n : ∀ a, Own fp1 a → Own fp a ∨ H a = none) : EPost g F1 H1 σ fp1 ρ' o Q :=
  fun v F' H' fp' fr s' S' n' r nd nf => h v F' H' fp' fr (s.trans s' n) S' (own_trans s n n') r nd fun a ha => ⟨own_trans s n (own2 := fun b => b ∈ fr) (fun b hb => (nf b hb).1) a ha, (nf a ha).2⟩
theorem RPost.after {g : Gl} {F H F1 H1 : Hp} {σ : St} {fp fp1 : Nat → List Addr} {ρ' : Ev} {r : R O} {Q : VK} (h : RPost g F H σ fp W Q ρ' r) (s : Step F H (Own fp) F1 H1) (n : ∀ a, Own fp1 a → Own fp a ∨ H a = none) : RPost g F1 H1 σ fp1 W Q ρ' r := by
  cases r with
  | ok o => exact EPost.after h s n
  | ex x => exact XPost.after s n h
theorem sound_and1 {e : E} {x : Expr} {pos : Pos} (h : SoundE X W x (evE e)) : SoundE X W (.BoolOp .And [x] pos) (evAnd [e]) := fun σ ρ F H fp r ρ' Q S ev q => by
  simp only [evAnd] at ev
  exact wpe_of (pe_one pe_wp) (h σ ρ F H fp _ ρ' _ S ev q)
theorem sound_or1 {e : E} {x : Expr} {pos : Pos} (h : SoundE X W x (evE e)) : SoundE X W (.BoolOp .Or [x] pos) (evOr [e]) := fun σ ρ F H fp r ρ' Q S ev q => by
  simp only [evOr] at ev
  exact wpe_of (pe_one pe_wp) (h σ ρ F H fp _ ρ' _ S ev q)
theorem sound_and {e e2 : E} {es : List E} {x x2 : Expr} {xs : List Expr} {pos : Pos} (h : SoundE X W x (evE e)) (h2 : SoundE X W (.BoolOp .And (x2 :: xs) pos) (evAnd (e2 :: es))) : SoundE X W (.BoolOp .And (x :: x2 :: xs) pos) (evAnd (e :: e2 :: es)) := fun σ ρ F H fp r ρ' Q S ev q => by
  rw [evAnd] at ev
  split at ev
  · rename_i ρ1 e1
    refine wpe_of (pe_and pe_wp pe_wp) (h σ ρ F H fp _ ρ1 _ S e1 fun v F1 H1 fp1 fr s1 S1 n1 rv nd nf => ?_)
    refine ⟨true, (repO_p rv).bl', iteT ?_⟩
    exact h2 σ ρ1 F1 H1 fp1 r ρ' _ S1 ev (RPost.after q s1 n1)
  · rename_i ρ1 e1
    cases ev
    refine wpe_of (pe_and pe_wp (pe_wp (e := .BoolOp .And (x2 :: xs) pos))) (h σ ρ F H fp _ ρ' _ S e1 fun v F1 H1 fp1 fr s1 S1 n1 rv nd nf => ?_)
    exact ⟨false, (repO_p rv).bl', iteF ((EPost.pp q s1 S1 n1).sc S1.sub repD_bl)⟩
  · rename_i z ρ1 e1
    cases ev
    exact wpe_of (pe_and pe_wp (pe_wp (e := .BoolOp .And (x2 :: xs) pos))) (h σ ρ F H fp _ ρ' _ S e1 q)
  · cases ev
  · intro z; cases z
theorem sound_or {e e2 : E} {es : List E} {x x2 : Expr} {xs : List Expr} {pos : Pos} (h : SoundE X W x (evE e)) (h2 : SoundE X W (.BoolOp .Or (x2 :: xs) pos) (evOr (e2 :: es))) : SoundE X W (.BoolOp .Or (x :: x2 :: xs) pos) (evOr (e :: e2 :: es)) := fun σ ρ F H fp r ρ' Q S ev q => by
  rw [evOr] at ev
  split at ev
  · rename_i ρ1 e1
    refine wpe_of (pe_or pe_wp pe_wp) (h σ ρ F H fp _ ρ1 _ S e1 fun v F1 H1 fp1 fr s1 S1 n1 rv nd nf => ?_)
    refine ⟨false, (repO_p rv).bl', iteF ?_⟩
    exact h2 σ ρ1 F1 H1 fp1 r ρ' _ S1 ev (RPost.after q s1 n1)
  · rename_i ρ1 e1
    cases ev
    refine wpe_of (pe_or pe_wp (pe_wp (e := .BoolOp .Or (x2 :: xs) pos))) (h σ ρ F H fp _ ρ' _ S e1 fun v F1 H1 fp1 fr s1 S1 n1 rv nd nf => ?_)
    exact ⟨true, (repO_p rv).bl', iteT ((EPost.pp q s1 S1 n1).sc S1.sub repD_bl)⟩
  · rename_i z ρ1 e1
    cases ev
    exact wpe_of (pe_or pe_wp (pe_wp (e := .BoolOp .Or (x2 :: xs) pos))) (h σ ρ F H fp _ ρ' _ S e1 q)
  · cases ev
  · intro z; cases z
theorem bty_boot {t : Str} {T : String} (h : bty t = some T) : bootBuiltins t = some (.type T) ∧ t ≠ "__name__" ∧ (t == ("__debug__" : Str)) = false := by
  unfold bty at h
  repeat' split at h
  all_goals first
    | (cases h; rename_i e; rw [e]; exact ⟨by decide +kernel, by decide +kernel, by decide +kernel⟩)
    | cases h
theorem ty_rep {H : Hp} {d : D} {v : V} {T : String} (r : RepD (gl X) H d v) (h : tyO d = some T) : TyX X.K H v (.type T) := by
  cases d with
  | non => cases h; rw [r.non']; exact .base .non
  | bl b => cases h; rw [r.bl']; exact .base (.bl b)
  | int i => cases h; rw [r.int']; exact .base (.int i)
  | str i => cases h; rw [r.str']; exact .base (.str i)
  | tup ds =>
    cases h
    obtain ⟨a, vs, rfl, q, _⟩ := repD_tup r
    rcases q with (q | ⟨o, q⟩) | ⟨o, its, n, q1, q2, _⟩
    · exact .base (.tup q)
    · exact .fTuple q
    · exact .kTuple q1 q2
  | lst ds =>
    cases h
    unfold RepD at r
    obtain ⟨a, vs, rfl, q, _⟩ := r
    rcases q with (q | ⟨o, q⟩) | ⟨o, its, n, q1, q2, _⟩
    · exact .base (.lst q)
    · exact .base (.frz q)
    · exact .kList q1 q2
  | dct _ _ => cases h
  | ins _ _ _ => cases h
  | exc _ _ _ => cases h
theorem sound_isi {t : Str} {es : List E} {a : Expr} {fp tp pos : Pos} (B : XOK X) (hg : glName X.env.scope "isinstance" = true) (hg2 : glName X.env.scope t = true) (hs : notStar a = true) (ht : t ∈ biNames) (h : SoundOs X W [a] (evOs es)) :
    SoundE X W (.Call (.Name "isinstance" fp) [a, .Name t tp] [] pos) (evE (.isi t es)) := fun σ ρ F H fps r ρ' Q S e q => by
  simp only [evE] at e
  split at e
  · rename_i qs ρ1 e1
    split at e
    · rename_i o e2
      split at e
      · rename_i b e3
        cases e
        unfold isiO at e3
        split at e3
        · rename_i Ta T k1 k2
          obtain ⟨k3, k4, k5⟩ := bty_boot k2
          refine wpe_of (pe_callB call_isi (gl_of hg) (B.bi _ (by decide +kernel)) boot_isinstance (pa_cons pe_wp (pa_cons (pe_bltn (v := .ty T) (gl_of hg2) (B.bi t ht) k3 rfl k4 k5) pa_nil (by rfl)) (starEach_cons hs)) (by decide +kernel) (by decide +kernel) (starEach_cons hs) (by rfl)) ?_
          refine (show WPEs X [a] σ H (fun vs H1 => rIsi X.K (vs ++ [V.ty T]) H1 Q) from h σ ρ F H fps _ ρ' _ S e1 fun vs F1 H1 fp1 s1 S1 n1 rs => ?_)
          have rv := vws_rep S1 rs e2
          obtain ⟨x, as, rfl, r1⟩ := rv.inv1
          exact ⟨x, .ty T, .type Ta, .type T, b, rfl, .ty T, ty_rep (r1.now S1.sub) k1, kit_ty e3, (EPost.pp q s1 S1 n1).sc S1.sub repD_bl⟩
        · cases e3
      · cases e
    · cases e
  · rename_i z ρ1 e1
    cases e
    refine wpe_of (pe_callB call_isi (gl_of hg) (B.bi _ (by decide +kernel)) boot_isinstance (pa_cons pe_wp (pa_cons (te := fun _ _ _ => False) ⟨fun _ _ _ _ _ _ z => z.elim⟩ pa_nil (by rfl)) (starEach_cons hs)) (by decide +kernel) (by decide +kernel) (starEach_cons hs) (by rfl)) ?_
    exact h σ ρ F H fps _ ρ' (fun vs H1 => False) S e1 q |> fun w => WPE.mono w fun v H1 z => z.elim
  · cases e
theorem RepOs.kid {g : Gl} {F H : Hp} : ∀ {os : List O} {vs : List V} {as : List Addr} {k : Nat} {o : O}, RepOs g F H os vs as → os[k]? = some o → ∃ v bs, vs[k]? = some v ∧ RepO g F H o v bs
  | [], vs, as, k, o, r, e => by simp at e
  | p :: os, vs, as, 0, o, r, e => by
    have eo : p = o := by simpa using e
    subst eo
    unfold RepOs at r
    obtain ⟨v, w, a1, a2, rfl, rfl, r1, r2⟩ := r
    exact ⟨v, a1, rfl, r1⟩
  | p :: os, vs, as, k + 1, o, r, e => by
    unfold RepOs at r
    obtain ⟨v, w, a1, a2, rfl, rfl, r1, r2⟩ := r
    obtain ⟨u, bs, h1, h2⟩ := RepOs.kid (k := k) r2 (by simpa using e)
    exact ⟨u, bs, by simpa using h1, h2⟩
theorem sound_lenI {es : List E} {a b : Expr} {fp sp pos : Pos} (B : XOK X) (hg : glName X.env.scope "len" = true) (hb : notSlice b = true) (h : SoundOs X W [a, b] (evOs es)) :
    SoundE X W (.Call (.Name "len" fp) [.Subscript a b sp] [] pos) (evE (.lenI es)) := fun σ ρ F H fps r ρ' Q S e q => by
  simp only [evE] at e
  refine wpe_of (pe_callB call_len (gl_of hg) (B.bi _ (by decide +kernel)) boot_len (pa_cons (pe_ix ix_list pe_wp pe_wp (plainIx_of hb)) pa_nil (by rfl)) (by decide +kernel) (by decide +kernel) (by rfl) (by rfl)) ?_
  split at e
  · rename_i qs ρ1 e1
    split at e
    · rename_i os e2
      split at e
      · rename_i o e3
        cases e
        refine (show WPEs X [a, b] σ H (fun vs H1 => ∀ v w, vs = [v, w] → rIxL X.K v w H1 fun y H2 => ∃ x n, [y] = [x] ∧ LenV X.K x H2 n ∧ Q (.int n) H2) from h σ ρ F H fps _ ρ' _ S e1 fun vs F1 H1 fp1 s1 S1 n1 rs v w hv => ?_) |> fun z => WPE.mono z fun v H1 z1 => WPE.mono z1 fun w H2 z2 => z2 v w rfl
        subst hv
        have rv := vws_rep S1 rs e2
        obtain ⟨o1, o2, as, bs, rfl, r1, r2⟩ := rv.two
        unfold lenIO at e3
        split at e3
        · rename_i os j eo
          cases eo
          split at e3
          · rename_i k ek
            split at e3
            · rename_i o eok
              split at e3
              · rename_i ds ei
                cases e3
                unfold RepO at r1
                obtain ⟨p, vs, cs, rfl, _, fp, hp, rk⟩ := r1
                obtain ⟨y, ys, hy, ry⟩ := RepOs.kid rk eok
                obtain ⟨c, ws, rfl, hc, rd⟩ := items_rep S1.sub ry ei
                refine ⟨p, vs, j, .ref c, rfl, (repO_p r2).int', .inl (.inl hp), ?_, .ref c, ds.length, rfl, ?_, (EPost.pp q s1 S1 n1).sc S1.sub repD_int⟩
                · unfold L2.atI
                  rw [← rk.length, ek]
                  exact hy
                · rcases hc with hc | hc
                  · exact .inl ⟨ws, hc, rd.length⟩
                  · exact .inr ⟨ws, hc, rd.length⟩
              · cases e3
            · cases e3
          · cases e3
        · cases e3
      · cases e
    · cases e
  · rename_i z ρ1 e1
    cases e
    refine (show WPE X a σ H (fun v H1 => WPE X b σ H1 fun w H2 => rIxL X.K v w H2 fun y H3 => ∃ x n, [y] = [x] ∧ LenV X.K x H3 n ∧ Q (.int n) H3) from ?_)
    have k : WPE X a σ H (fun v H1 => WPE X b σ H1 fun w H2 => False) := h σ ρ F H fps _ ρ' (fun vs H1 => False) S e1 q
    exact WPE.mono k fun v H1 z1 => WPE.mono z1 fun w H2 z2 => z2.elim
  · cases e
theorem zOp_ok {p : Prim} {op : CmpOp} (h : zOp p op = true) : OpR X (compareOp op) (rI0 fun i j => .bl (cmpZ p i j)) := by
  unfold zOp at h
  rcases of_decide_eq_true h with ⟨rfl, rfl⟩ | ⟨rfl, rfl⟩
  · exact op_lt
  · exact op_le
theorem zMarks {p q : Prim} {o1 o2 : CmpOp} {x2 x3 : Expr} (h1 : zOp p o1 = true) (h2 : zOp q o2 = true) (h3 : notSet x3 = true) : lastMarks [o1, o2] [x2, x3] = false := by
  have m : behindInMarks o2 x3 = false := marks_of h3
  exact m
theorem cmp2_reads {p q : Prim} {a b c : E} {x1 x2 x3 : Expr} (ha : SoundE X W x1 (evE a)) (hb : SoundE X W x2 (evE b)) (hc : SoundE X W x3 (evE c)) {σ : St} {ρ : Ev} {F H : Hp} {fp : Nat → List Addr} {r : R O} {ρ' : Ev} {Q : VK} (S : SOK (gl X) F H σ ρ fp) (e : evE (.cmp2 p q a b c) ρ = some (r, ρ')) (qq : RPost (gl X) F H σ fp W Q ρ' r) :
    tChain (rI0 fun i j => .bl (cmpZ p i j)) (rI0 fun i j => .bl (cmpZ q i j)) (WPE X x1) (WPE X x2) (WPE X x3) σ H Q := by
  simp only [evE] at e
  split at e
  · rename_i i ρ1 e1
    refine ha σ ρ F H fp _ ρ1 _ S e1 fun v F1 H1 fp1 fr1 s1 S1 n1 rv1 nd1 nf1 => ?_
    split at e
    · rename_i j ρ2 e2
      refine hb σ ρ1 F1 H1 fp1 _ ρ2 _ S1 e2 fun v2 F2 H2 fp2 fr2 s2 S2 n2 rv2 nd2 nf2 => ?_
      have s12 := s1.trans s2 n1
      have n12 := own_trans s1 n1 n2
      refine ⟨i, j, (repO_p rv1).int', (repO_p rv2).int', cmpZ p i j, rfl, ?_⟩
      split at e
      · rename_i k
        rw [k, if_pos rfl]
        cases e3 : evE c ρ2 with
        | none => rw [e3] at e; cases e
        | some rr =>
          obtain ⟨rr, ρ3⟩ := rr
          rw [e3] at e
          unfold cmp2C at e
          split at e
          · rename_i z ρ4 e4
            cases e4
            cases e
            exact hc σ ρ2 F2 H2 fp2 _ _ _ S2 e3 fun v3 F3 H3 fp3 fr3 s3 S3 n3 rv3 nd3 nf3 => ⟨j, z, (repO_p rv2).int', (repO_p rv3).int', (EPost.pp qq (s12.trans s3 n12) S3 (own_trans s12 n12 n3)).sc S3.sub repD_bl⟩
          · rename_i z ρ4 e4
            cases e4
            cases e
            exact hc σ ρ2 F2 H2 fp2 _ _ _ S2 e3 (XPost.after s12 n12 qq)
          · cases e
      · rename_i k
        cases e
        rw [k, if_neg Bool.false_ne_true]
        exact (EPost.pp qq s12 S2 n12).sc S2.sub repD_bl
    · rename_i z ρ2 e2
      cases e
      exact hb σ ρ1 F1 H1 fp1 _ _ _ S1 e2 (XPost.after s1 n1 qq)
    · cases e
  · rename_i z ρ1 e1
    cases e
    exact ha σ ρ F H fp _ _ _ S e1 qq
  · cases e
theorem sound_cmp2 {p q : Prim} {a b c : E} {x1 x2 x3 : Expr} {o1 o2 : CmpOp} {pos : Pos} (h1 : zOp p o1 = true) (h2 : zOp q o2 = true) (h3 : notSet x3 = true) (ha : SoundE X W x1 (evE a)) (hb : SoundE X W x2 (evE b)) (hc : SoundE X W x3 (evE c)) : SoundE X W (.Compare x1 [o1, o2] [x2, x3] pos) (evE (.cmp2 p q a b c)) := fun σ ρ F H fp r ρ' Q S e qq =>
  wpe_of (pe_chain (zOp_ok h1) (zOp_ok h2) pe_wp pe_wp pe_wp (zMarks h1 h2 h3)) (cmp2_reads ha hb hc S e qq)
theorem idxS_ok {z : Str} : ∀ {ys : List Str} {j : Nat}, idxS z ys = some j → ys[j]? = some z ∧ ∀ m, m < j → ys[m]? ≠ some z
  | [], j, h => by cases h
  | y :: r, j, h => by
    unfold idxS at h
    split at h
    · rename_i e
      cases h
      exact ⟨by rw [e]; rfl, fun m hm => absurd hm (Nat.not_lt_zero m)⟩
    · rename_i ne
      cases q : idxS z r with
      | none => rw [q] at h; cases h
      | some k =>
        rw [q] at h
        cases h
        obtain ⟨h1, h2⟩ := idxS_ok q
        refine ⟨by simpa using h1, fun m hm => ?_⟩
        cases m with
        | zero => simpa using ne
        | succ m => simpa using h2 m (Nat.lt_of_succ_lt_succ hm)
theorem sound_idxT {y : Str} {ys : List Str} {e : E} {a : Expr} {np ap cp : Pos} (B : XOK X) (ht : TupOk (gx X) y ys) (hg : glName X.env.scope y = true) (hs : notStar a = true) (hl : (ap.endLine == cp.line) = true) (h : SoundE X W a (evE e)) :
    SoundE X W (.Call (.Attribute (.Name y np) "index" ap) [a] [] cp) (evE (.idxT y ys e)) := fun σ ρ F H fps r ρ' Q S ev q => by
  simp only [evE] at ev
  obtain ⟨p, o, h1, h2, h3, h4, h5, h6⟩ := ht
  refine wpe_of (pe_bm PySem.F.plainAttrs_tuple PySem.F.slot_tuple_index PySem.F.type_tuple_index mt_tup_index (pe_glob (v := .ref p) (gl_of hg) h1 rfl h6) (pa_wp1 hs) rfl (by rw [starEach_cons hs]; rfl) hl (starEach_cons hs) rfl) ?_
  refine ⟨.inr (.inl ⟨rfl, o, h2, h3, h4⟩), ?_⟩
  cases he : evE e ρ with
  | none => rw [he] at ev; cases ev
  | some rr =>
    obtain ⟨rr, ρ1⟩ := rr
    rw [he] at ev
    unfold idxC at ev
    split at ev
    · rename_i z ρ2 e2
      cases e2
      split at ev
      · rename_i j e3
        cases ev
        refine h σ ρ F H fps _ _ _ S he fun v F1 H1 fp1 fr1 s1 S1 n1 rv nd nf => ?_
        obtain ⟨i1, i2⟩ := idxS_ok e3
        exact ⟨p, ys, z, j, rfl, by rw [(repO_p rv).str'], h5 H1, i1, i2, (EPost.pp q s1 S1 n1).sc S1.sub repD_int⟩
      · cases ev
    · rename_i z ρ2 e2
      cases e2
      cases ev
      exact h σ ρ F H fps _ _ _ S he q
    · cases ev
end
end DV
namespace DV
open PySem PySem.Spec PyProof.Rows L2
def fpArg (fp : Nat → List Addr) (ix : List (Option Nat)) (j : Nat) : List Addr := match ix[j]? with
  | some (some i) => fp i
  | _ => []
theorem vw_some {ρ : Ev} {i : Nat} {o : O} (h : (Opd.sl i).vw ρ = some o) : ρ[i]? = some (some o) := by
  unfold Opd.vw at h
  dsimp only at h
  cases z : ρ[i]? with
  | none => rw [z] at h; cases h
  | some w =>
    cases w with
    | none => rw [z] at h; cases h
    | some w => rw [z] at h; rw [Option.some.inj h]
theorem isOwn_t {o : O} (h : ∀ d, o ≠ .p d) : isOwn (some (some o)) = true := by
  cases o <;> first | rfl | exact absurd rfl (h _)
theorem vws_cons {ρ : Ev} {q : Opd} {qs : List Opd} {os : List O} (h : vws ρ (q :: qs) = some os) : ∃ o r, os = o :: r ∧ q.vw ρ = some o ∧ vws ρ qs = some r := by
  unfold vws at h
  cases e3 : q.vw ρ with
  | none => rw [e3] at h; cases h
  | some o =>
    cases e4 : vws ρ qs with
    | none => rw [e3, e4] at h; cases h
    | some os' =>
      rw [e3, e4] at h
      exact ⟨o, os', (Option.some.inj h).symm, rfl, rfl⟩
theorem args_at {g : Gl} {F H : Hp} {σ : St} {ρ : Ev} {fp : Nat → List Addr} (S : SOK g F H σ ρ fp) : ∀ {qs : List Opd} {vs : List V} {os : List O}, OpdsRep g F σ qs vs → vws ρ qs = some os →
    os.length = vs.length ∧ (ownIx ρ qs).length = vs.length ∧ (∀ (j : Nat) (o : O), os[j]? = some o → ∃ v, vs[j]? = some v ∧ RepO g F H o v (fpArg fp (ownIx ρ qs) j)) ∧ (∀ (j i : Nat), (ownIx ρ qs)[j]? = some (some i) → i < ρ.length ∧ ∃ v, vs[j]? = some v ∧ σ[i]? = some (some v))
  | [], vs, os, h, e => by
    have e2 : os = [] := (Option.some.inj e).symm
    have h : vs = [] := h
    subst e2 h
    exact ⟨rfl, rfl, fun j o e => by simp at e, fun j i e => by unfold ownIx at e; simp at e⟩
  | q :: qs, vs, os, h, e => by
    obtain ⟨v, r, rfl, h1, h2⟩ := h
    obtain ⟨o, os', rfl, e3, e4⟩ := vws_cons e
    obtain ⟨l1, l2, k1, k2⟩ := args_at S h2 e4
    have hd : RepO g F H o v (fpArg fp (ownIx ρ (q :: qs)) 0) ∧ (ownIx ρ (q :: qs)).length = (ownIx ρ qs).length + 1 ∧ (∀ j, (ownIx ρ (q :: qs))[j + 1]? = (ownIx ρ qs)[j]?) ∧ (∀ i, (ownIx ρ (q :: qs))[0]? = some (some i) → i < ρ.length ∧ σ[i]? = some (some v)) := by
      cases q with
      | sl i =>
        have e5 := vw_some e3
        obtain ⟨v', hv, rv⟩ := S.at_ i o e5
        have e6 : σ[i]? = some (some v) := h1
        rw [e6] at hv
        cases hv
        rw [show ownIx ρ (.sl i :: qs) = (if isOwn ρ[i]? then some i else none) :: ownIx ρ qs from rfl]
        refine ⟨?_, rfl, fun j => rfl, fun i' e7 => ?_⟩
        · unfold fpArg
          rw [e5]
          by_cases hp : ∃ d, o = .p d
          · obtain ⟨d, rfl⟩ := hp
            unfold RepO at rv ⊢
            exact ⟨rv.1, rfl⟩
          · rw [isOwn_t fun d z => hp ⟨d, z⟩]
            exact rv
        · rw [e5] at e7
          by_cases hp : isOwn (some (some o)) = true
          · rw [if_pos hp] at e7
            cases e7
            exact ⟨(List.getElem?_eq_some_iff.mp e5).1, e6⟩
          · rw [if_neg hp] at e7
            cases e7
      | val d =>
        have e6 : O.p d = o := Option.some.inj e3
        subst e6
        rw [show ownIx ρ (.val d :: qs) = none :: ownIx ρ qs from rfl]
        refine ⟨?_, rfl, fun j => rfl, fun i' e7 => by cases e7⟩
        unfold RepO fpArg
        exact ⟨h1, rfl⟩
    obtain ⟨hd1, hd2, hd3, hd4⟩ := hd
    refine ⟨by rw [List.length_cons, List.length_cons, l1], by rw [hd2, List.length_cons, l2], fun j p e5 => ?_, fun j i e5 => ?_⟩
    · cases j with
      | zero =>
        have : o = p := by simpa using e5
        subst this
        exact ⟨v, rfl, hd1⟩
      | succ j =>
        obtain ⟨w, hw, rw'⟩ := k1 j p (by simpa using e5)
        refine ⟨w, by simpa using hw, ?_⟩
        unfold fpArg at rw' ⊢
        rw [hd3]
        exact rw'
    · cases j with
      | zero =>
        obtain ⟨h3, h4⟩ := hd4 i e5
        exact ⟨h3, v, rfl, h4⟩
      | succ j =>
        rw [hd3] at e5
        obtain ⟨h3, w, hw, h4⟩ := k2 j i e5
        exact ⟨h3, w, by simpa using hw, h4⟩
theorem somes_mem : ∀ {l : List (Option Nat)} {j i : Nat}, l[j]? = some (some i) → i ∈ somes l
  | [], j, i, h => by simp at h
  | some k :: r, 0, i, h => by
    have : k = i := by simpa using h
    rw [this]; exact List.mem_cons_self
  | some k :: r, j + 1, i, h => List.mem_cons_of_mem _ (somes_mem (l := r) (j := j) (by simpa using h))
  | none :: r, 0, i, h => by simp at h
  | none :: r, j + 1, i, h => somes_mem (l := r) (j := j) (by simpa using h)
theorem somes_nd : ∀ {l : List (Option Nat)} {j k i : Nat}, (somes l).Nodup → l[j]? = some (some i) → l[k]? = some (some i) → j = k
  | [], j, k, i, _, h, _ => by simp at h
  | some a :: r, j, k, i, nd, h1, h2 => by
    have nd := List.nodup_cons.mp (show (a :: somes r).Nodup from nd)
    cases j with
    | zero =>
      have e : a = i := by simpa using h1
      subst e
      cases k with
      | zero => rfl
      | succ k => exact absurd (somes_mem (j := k) (by simpa using h2)) nd.1
    | succ j =>
      cases k with
      | zero =>
        have e : a = i := by simpa using h2
        subst e
        exact absurd (somes_mem (j := j) (by simpa using h1)) nd.1
      | succ k => rw [somes_nd nd.2 (j := j) (k := k) (by simpa using h1) (by simpa using h2)]
  | none :: r, j, k, i, nd, h1, h2 => by
    cases j with
    | zero => simp at h1
    | succ j =>
      cases k with
      | zero => simp at h2
      | succ k => rw [somes_nd (l := r) nd (j := j) (k := k) (by simpa using h1) (by simpa using h2)]
theorem fpArg_mem {fp : Nat → List Addr} {ix : List (Option Nat)} {j : Nat} {a : Addr} (h : a ∈ fpArg fp ix j) : ∃ i, ix[j]? = some (some i) ∧ a ∈ fp i := by
  unfold fpArg at h
  split at h
  · rename_i i e
    exact ⟨i, e, h⟩
  · exact absurd h (by simp)
theorem reps_get {g : Gl} {F H : Hp} {dv : List D} {dvs : List V} (h : RepDs g F dv dvs) {j : Nat} {o : O} (e : (dv.map O.p)[j]? = some o) : ∃ v, dvs[j]? = some v ∧ RepO g F H o v [] := by
  rw [List.getElem?_map] at e
  cases q : dv[j]? with
  | none => rw [q] at e; cases e
  | some d =>
    rw [q] at e
    cases e
    obtain ⟨v, hv, r⟩ := h.get q
    exact ⟨v, hv, by unfold RepO; exact ⟨r, rfl⟩⟩
theorem args_ok {g : Gl} {F H : Hp} {σ : St} {ρ : Ev} {fp : Nat → List Addr} (S : SOK g F H σ ρ fp) {qs : List Opd} {vs dvs : List V} {os : List O} {dv : List D} (h : OpdsRep g F σ qs vs) (e : vws ρ qs = some os) (nd : (lockd ρ qs).Nodup) (hd : RepDs g F dv dvs) :
    SOK g F H ((vs ++ dvs).map some) ((os ++ dv.map O.p).map some) (fpArg fp (ownIx ρ qs)) := by
  obtain ⟨l1, l2, k1, k2⟩ := args_at S h e
  have l3 := hd.length
  refine ⟨S.sub, by simp [l1, l3], fun j o e1 => ?_, fun j => ?_, fun j k a hj hk => ?_, fun j hj => ?_⟩
  · rw [List.getElem?_map] at e1
    cases q : (os ++ dv.map O.p)[j]? with
    | none => rw [q] at e1; cases e1
    | some o' =>
      rw [q] at e1
      cases e1
      rw [List.getElem?_map]
      by_cases hj : j < os.length
      · rw [List.getElem?_append_left hj] at q
        obtain ⟨v, hv, r⟩ := k1 j o q
        rw [List.getElem?_append_left (by rw [← l1]; exact hj), hv]
        exact ⟨v, rfl, r⟩
      · rw [List.getElem?_append_right (by omega)] at q
        obtain ⟨v, hv, r⟩ := reps_get (H := H) hd q
        rw [List.getElem?_append_right (by omega), ← l1, hv]
        refine ⟨v, rfl, ?_⟩
        have : fpArg fp (ownIx ρ qs) j = [] := by
          unfold fpArg
          rw [List.getElem?_eq_none (by omega)]
        rw [this]
        exact r
  · unfold fpArg
    split
    · exact S.nd _
    · exact List.nodup_nil
  · obtain ⟨i, e1, h1⟩ := fpArg_mem hj
    obtain ⟨i', e2, h2⟩ := fpArg_mem hk
    have := S.dj i i' a h1 h2
    subst this
    exact somes_nd nd e1 e2
  · have hj2 : (ownIx ρ qs).length ≤ j := by
      by_cases c : j < os.length
      · have e1 : ((os ++ dv.map O.p).map some)[j]? = some (some os[j]) := by
          rw [List.getElem?_map, List.getElem?_append_left c, List.getElem?_eq_getElem c]
          rfl
        exact absurd e1 (hj os[j])
      · omega
    unfold fpArg
    rw [List.getElem?_eq_none hj2]
theorem SOK.giveBack {g : Gl} {F H : Hp} {σ : St} : ∀ (ix : List (Option Nat)) (bs : List (Option O)) {ρ : Ev} {fp fp2 : Nat → List Addr}, SOK g F H σ ρ fp → (∀ (j i : Nat), ix[j]? = some (some i) → i < ρ.length) →
    (∀ (j i : Nat) (o : O), ix[j]? = some (some i) → bs[j]? = some (some o) → ∃ v, σ[i]? = some (some v) ∧ RepO g F H o v (fp2 j)) → (∀ j, (fp2 j).Nodup) → (∀ j k a, a ∈ fp2 j → a ∈ fp2 k → j = k) → (∀ a, Own fp a → ∀ j, a ∉ fp2 j) →
    ∃ fp', SOK g F H σ (giveBack ρ ix bs) fp' ∧ (∀ a, Own fp' a → Own fp a ∨ Own fp2 a) ∧ (giveBack ρ ix bs).length = ρ.length
  | [], bs, ρ, fp, fp2, S, _, _, _, _, _ => ⟨fp, by unfold DV.giveBack; exact S, fun a h => .inl h, by unfold DV.giveBack; rfl⟩
  | some i :: r, [], ρ, fp, fp2, S, _, _, _, _, _ => ⟨fp, by unfold DV.giveBack; exact S, fun a h => .inl h, by unfold DV.giveBack; rfl⟩
  | none :: r, [], ρ, fp, fp2, S, _, _, _, _, _ => ⟨fp, by unfold DV.giveBack; exact S, fun a h => .inl h, by unfold DV.giveBack; rfl⟩
  | none :: r, o :: os, ρ, fp, fp2, S, lt, h, nd, dj, ds => by
    obtain ⟨fp', S', n', l'⟩ := SOK.giveBack r os (fp2 := fun j => fp2 (j + 1)) S (fun j i e => lt (j + 1) i (by simpa using e)) (fun j i p e1 e2 => h (j + 1) i p (by simpa using e1) (by simpa using e2)) (fun j => nd (j + 1)) (fun j k a h1 h2 => by have := dj _ _ a h1 h2; omega) (fun a ha j => ds a ha (j + 1))
    exact ⟨fp', by unfold DV.giveBack; exact S', fun a ha => (n' a ha).elim .inl fun ⟨j, hj⟩ => .inr ⟨j + 1, hj⟩, by unfold DV.giveBack; exact l'⟩
  | some i :: r, none :: os, ρ, fp, fp2, S, lt, h, nd, dj, ds => by
    obtain ⟨fp', S', n', l'⟩ := SOK.giveBack r os (fp2 := fun j => fp2 (j + 1)) (S.hide i) (fun j i' e => by rw [List.length_set]; exact lt (j + 1) i' (by simpa using e)) (fun j i p e1 e2 => h (j + 1) i p (by simpa using e1) (by simpa using e2)) (fun j => nd (j + 1)) (fun j k a h1 h2 => by have := dj _ _ a h1 h2; omega) (fun a ha j => ds a (own_hide ha) (j + 1))
    exact ⟨fp', by unfold DV.giveBack; exact S', fun a ha => (n' a ha).elim (fun z => .inl (own_hide z)) fun ⟨j, hj⟩ => .inr ⟨j + 1, hj⟩, by unfold DV.giveBack; rw [l', List.length_set]⟩
  | some i :: r, some o :: os, ρ, fp, fp2, S, lt, h, nd, dj, ds => by
    obtain ⟨v, hv, rv⟩ := h 0 i o rfl rfl
    have S1 := S.put (lt 0 i rfl) hv rv (nd 0) fun a ha j hj q => ds a ⟨j, q⟩ 0 ha
    obtain ⟨fp', S', n', l'⟩ := SOK.giveBack r os (fp2 := fun j => fp2 (j + 1)) S1 (fun j i' e => by rw [List.length_set]; exact lt (j + 1) i' (by simpa using e)) (fun j i p e1 e2 => h (j + 1) i p (by simpa using e1) (by simpa using e2)) (fun j => nd (j + 1)) (fun j k a h1 h2 => by have := dj _ _ a h1 h2; omega) (fun a ⟨k, hk⟩ j q => by
      dsimp only at hk
      by_cases e : k = i
      · rw [if_pos e] at hk
        have := dj _ _ a hk q
        omega
      · rw [if_neg e] at hk
        exact ds a ⟨k, hk⟩ (j + 1) q)
    refine ⟨fp', by unfold DV.giveBack; exact S', fun a ha => ?_, by unfold DV.giveBack; rw [l', List.length_set]⟩
    rcases n' a ha with ⟨k, hk⟩ | ⟨j, hj⟩
    · dsimp only at hk
      by_cases e : k = i
      · rw [if_pos e] at hk
        exact .inr ⟨0, hk⟩
      · rw [if_neg e] at hk
        exact .inl ⟨k, hk⟩
    · exact .inr ⟨j + 1, hj⟩
/-- the caller's state behind a call -/
theorem after_call {g : Gl} {F1 H1 F2 H2 : Hp} {σ : St} {ρ1 : Ev} {fp1 fp2 : Nat → List Addr} (S1 : SOK g F1 H1 σ ρ1 fp1) {qs : List Opd} {vs dvs : List V} {os : List O} {bs : List (Option O)} (h : OpdsRep g F1 σ qs vs) (e : vws ρ1 qs = some os) (nd : (lockd ρ1 qs).Nodup)
    (s : Step F1 H1 (Own (fpArg fp1 (ownIx ρ1 qs))) F2 H2) (S2 : SOK g F2 H2 ((vs ++ dvs).map some) bs fp2) (n2 : ∀ a, Own fp2 a → Own (fpArg fp1 (ownIx ρ1 qs)) a ∨ H1 a = none) :
    Step F1 H1 (Own fp1) F2 H2 ∧ (∃ fp', SOK g F2 H2 σ (giveBack (hideAll ρ1 (lockd ρ1 qs)) (ownIx ρ1 qs) bs) fp' ∧ (∀ a, Own fp' a → Own fp1 a ∨ H1 a = none) ∧ ∀ a, Own fp' a → (Own fp1 a ∧ ¬ Own (fpArg fp1 (ownIx ρ1 qs)) a) ∨ Own fp2 a) := by
  have sub : ∀ a, Own (fpArg fp1 (ownIx ρ1 qs)) a → Own fp1 a := fun a ⟨j, hj⟩ => by
    obtain ⟨i, _, hi⟩ := fpArg_mem hj
    exact ⟨i, hi⟩
  obtain ⟨l1, l2, k1, k2⟩ := args_at S1 h e
  refine ⟨⟨s.mono, s.sub, fun a o e n => s.keep a o e fun q => n (sub a q), fun a o e => (s.newF a o e).elim .inl fun z => z.elim (fun z => .inr (.inl z)) fun z => .inr (.inr (sub a z))⟩, ?_⟩
  have Sh := S1.hideAll (lockd ρ1 qs)
  have dis : ∀ a, Own (fpHide fp1 (lockd ρ1 qs)) a → ¬ Own (fpArg fp1 (ownIx ρ1 qs)) a := fun a ha ⟨j, hj⟩ => by
    obtain ⟨i, e1, hi⟩ := fpArg_mem hj
    exact S1.hideAll_no (somes_mem e1) hi ha
  have Sh2 := Sh.stay s dis
  obtain ⟨fp', S', n', l'⟩ := SOK.giveBack (ownIx ρ1 qs) bs (fp2 := fp2) Sh2 (fun j i e1 => by rw [hideAll_length]; exact (k2 j i e1).1) (fun j i o e1 e2 => by
    obtain ⟨v, hv, rv⟩ := S2.at_ j o e2
    obtain ⟨_, w, hw, hs⟩ := k2 j i e1
    have hj : j < vs.length := (List.getElem?_eq_some_iff.mp hw).1
    rw [List.getElem?_map, List.getElem?_append_left hj, hw] at hv
    cases hv
    exact ⟨v, hs, rv⟩) S2.nd S2.dj (fun a ha j hj => by
    rcases n2 a ⟨j, hj⟩ with z | z
    · exact dis a ha z
    · obtain ⟨_, u, hu⟩ := Sh.own ha
      rw [z] at hu; cases hu)
  refine ⟨fp', S', fun a ha => ?_, fun a ha => ?_⟩
  · rcases n' a ha with z | z
    · exact .inl (own_hideAll _ z)
    · exact (n2 a z).elim (fun z => .inl (sub a z)) .inr
  · rcases n' a ha with z | z
    · exact .inl ⟨own_hideAll _ z, dis a z⟩
    · exact .inr z
end DV
namespace DV
open PySem PySem.Spec PyProof.Rows L2
section
variable {X : Cx} {W : WX}
theorem evOs_length : ∀ {es : List E} {ρ ρ' : Ev} {qs : List Opd}, evOs es ρ = some (.ok qs, ρ') → qs.length = es.length
  | [], ρ, ρ', qs, h => by
    simp only [evOs] at h
    cases h
    rfl
  | e :: es, ρ, ρ', qs, h => by
    have key : ∃ q qs' ρ1, evOs es ρ1 = some (.ok qs', ρ') ∧ qs = q :: qs' := by
      by_cases hv : ∃ i, e = .var i
      · obtain ⟨i, rfl⟩ := hv
        simp only [evOs] at h
        split at h
        · split at h
          · rename_i qs' ρ2 e2
            cases h
            exact ⟨_, _, _, e2, rfl⟩
          · cases h
          · cases h
        · cases h
      · rw [evOs] at h
        · split at h
          · split at h
            · rename_i qs' ρ2 e2
              cases h
              exact ⟨_, _, _, e2, rfl⟩
            · cases h
            · cases h
          · cases h
          · cases h
        · intro i z
          exact hv ⟨i, z⟩
    obtain ⟨q, qs', ρ1, h1, rfl⟩ := key
    rw [List.length_cons, List.length_cons, evOs_length h1]
theorem sound_call {f : Str} {dv : List D} {sem : FS} {es : List E} {x : Expr} {xs : List Expr} {po pos : Pos} (B : XOK X) (tk : Takes X W) (hc : CallOk (gx X) f dv sem es.length) (hg : glName X.env.scope f = true) (hs : (x :: xs).all notStar = true) (h : SoundOs X W (x :: xs) (evOs es)) :
    SoundE X W (.Call (.Name f po) (x :: xs) [] pos) (evE (.call f dv sem es)) := fun σ ρ F H fp r ρ' Q S e q => by
  obtain ⟨a, fd, ps, ds, dvs, k, hm, hk, hb, hd, hdv, hl, FO, hr, hdb⟩ := hc.ex
  have hs' := hs
  rw [List.all_cons, Bool.and_eq_true] at hs'
  have hpl : ∀ (l : List Expr) (ps : Pos), l.all notStar = true → (backTo ps (starEach l X.env)).any (·.1) = false := by
    intro l ps
    induction l with
    | nil => intro _; rfl
    | cons y l ih =>
      intro z
      rw [List.all_cons, Bool.and_eq_true] at z
      rw [starEach_cons z.1]
      exact ih z.2
  refine wpe_of (pe_callSD FO hr (gl_of hg) hm hk hb hd (fun σ => passAt tk σ) (pa_wps hs) hdb (starEach_cons hs'.1) (hpl xs pos hs'.2)) ?_
  simp only [evE] at e
  split at e
  · rename_i qs ρ1 e1
    split at e
    · rename_i os e2
      split at e
      · rename_i nd
        refine h σ ρ F H fp _ ρ1 _ S e1 fun vs F1 H1 fp1 s1 S1 n1 rs => ?_
        have l1 := args_at S1 rs e2
        have l2 := evOs_length e1
        have l3 : vs.length = es.length := by
          rw [← l2, ← l1.2.1]
          clear e2 e rs l1 nd e1 l2
          induction qs with
          | nil => rfl
          | cons q qs ih =>
            cases q with
            | sl i => show (ownIx ρ1 qs).length + 1 = _; rw [ih]; rfl
            | val d => show (ownIx ρ1 qs).length + 1 = _; rw [ih]; rfl
        have A := args_ok S1 rs e2 nd (hdv F1)
        have post : ∃ r0 bs, sem (os ++ dv.map .p) = some (r0, bs) ∧ ρ' = giveBack (hideAll ρ1 (lockd ρ1 qs)) (ownIx ρ1 qs) bs ∧ r = r0 := by
          split at e
          · rename_i o bs e3
            cases e
            exact ⟨_, _, e3, rfl, rfl⟩
          · rename_i z bs e3
            cases e
            exact ⟨_, _, e3, rfl, rfl⟩
          · cases e
        obtain ⟨r0, bs, e3, rfl, rfl⟩ := post
        refine ⟨by rw [List.length_append, l3, hl, ← (hdv F1).length], F1, _, _, r, bs, A, e3, ?_⟩
        cases r with
        | ok o =>
          intro v F2 H2 fp2 fr s2 S2 n2 rv nd2 nf2
          obtain ⟨s2', fp', S', n', m'⟩ := after_call S1 rs e2 nd s2 S2 n2
          have sub : ∀ a, Own (fpArg fp1 (ownIx ρ1 qs)) a → Own fp1 a := fun a ⟨j, hj⟩ => by
            obtain ⟨i, _, hi⟩ := fpArg_mem hj
            exact ⟨i, hi⟩
          refine q v F2 H2 fp' fr (s1.trans s2' n1) S' (own_trans s1 n1 n') rv nd2 fun a ha => ⟨own_trans s1 n1 (own2 := fun b => b ∈ fr) (fun b hb => (nf2 b hb).1.elim (fun z => .inl (sub b z)) .inr) a ha, fun z => ?_⟩
          rcases m' a z with ⟨z1, z2⟩ | z
          · rcases (nf2 a ha).1 with w | w
            · exact z2 w
            · obtain ⟨_, u, hu⟩ := S1.own z1
              rw [w] at hu; cases hu
          · exact (nf2 a ha).2 z
        | ex z =>
          intro C d F2 H2 fp2 s2 S2 n2 rx
          obtain ⟨s2', fp', S', n', m'⟩ := after_call S1 rs e2 nd s2 S2 n2
          exact q C d F2 H2 fp' (s1.trans s2' n1) S' (own_trans s1 n1 n') rx
      · cases e
    · cases e
  · rename_i z ρ1 e1
    cases e
    exact h σ ρ F H fp _ ρ' _ S e1 q
  · cases e
theorem evEs_length : ∀ {es : List E} {ρ ρ' : Ev} {os : List O}, evEs es ρ = some (.ok os, ρ') → os.length = es.length
  | [], ρ, ρ', os, h => by
    simp only [evEs] at h
    cases h
    rfl
  | e :: es, ρ, ρ', os, h => by
    simp only [evEs] at h
    split at h
    · split at h
      · rename_i os2 ρ2 h2
        cases h
        rw [List.length_cons, List.length_cons, evEs_length h2]
      · cases h
      · cases h
    · cases h
    · cases h
theorem repOs_args {g : Gl} {F H : Hp} (s : Sub F H) : ∀ {os : List O} {vs : List V} {as : List Addr}, RepOs g F H os vs as → as.Nodup → vs.length = os.length ∧ ∃ fp, SOK g F H (vs.map some) (os.map some) fp ∧ ∀ a, Own fp a → a ∈ as
  | [], vs, as, r, _ => by
    unfold RepOs at r
    obtain ⟨rfl, rfl⟩ := r
    exact ⟨rfl, fun _ => [], ⟨s, rfl, fun i o e => by simp at e, fun i => List.nodup_nil, fun i j a h => by simp at h, fun i _ => rfl⟩, fun a ⟨i, h⟩ => by simp at h⟩
  | o :: os, vs, as, r, nd => by
    unfold RepOs at r
    obtain ⟨v, r', a1, a2, rfl, rfl, r1, r2⟩ := r
    obtain ⟨n1, n2, n3⟩ := List.nodup_append.mp nd
    obtain ⟨hl, fp, S, hs⟩ := repOs_args s r2 n2
    refine ⟨by rw [List.length_cons, List.length_cons, hl], fun j => match j with
      | 0 => a1
      | j + 1 => fp j, ⟨s, by simp [hl], fun i o' e => ?_, fun i => ?_, fun i j a hi hj => ?_, fun i hi => ?_⟩, fun a ⟨i, h⟩ => ?_⟩
    · cases i with
      | zero =>
        simp at e
        subst e
        exact ⟨v, rfl, r1⟩
      | succ i => exact S.at_ i o' (by simpa using e)
    · cases i with
      | zero => exact n1
      | succ i => exact S.nd i
    · cases i with
      | zero => cases j with
        | zero => rfl
        | succ j => exact absurd rfl (n3 a hi a (hs a ⟨j, hj⟩))
      | succ i => cases j with
        | zero => exact absurd rfl (n3 a hj a (hs a ⟨i, hi⟩))
        | succ j => rw [S.dj i j a hi hj]
    · cases i with
      | zero => exact absurd rfl (hi o)
      | succ i => exact S.emp i fun o' e => hi o' (by simpa using e)
    · cases i with
      | zero => exact List.mem_append_left _ h
      | succ i => exact List.mem_append_right _ (hs a ⟨i, h⟩)
theorem sound_callV {f : Str} {sem : FS} {es : List E} {x : Expr} {xs : List Expr} {po pos : Pos} (B : XOK X) (tk : Takes X W) (hc : CallOk (gx X) f [] sem es.length) (hg : glName X.env.scope f = true) (hs : (x :: xs).all notStar = true) (h : SoundEs X W (x :: xs) (evEs es)) :
    SoundE X W (.Call (.Name f po) (x :: xs) [] pos) (evE (.callV f sem es)) := fun σ ρ F H fp r ρ' Q S e q => by
  obtain ⟨a, fd, ps, ds, dvs, k, hm, hk, hb, hd, hdv, hl, FO, hr, hdb⟩ := hc.ex
  have hs' := hs
  rw [List.all_cons, Bool.and_eq_true] at hs'
  have hpl : ∀ (l : List Expr) (ps : Pos), l.all notStar = true → (backTo ps (starEach l X.env)).any (·.1) = false := by
    intro l ps
    induction l with
    | nil => intro _; rfl
    | cons y l ih =>
      intro z
      rw [List.all_cons, Bool.and_eq_true] at z
      rw [starEach_cons z.1]
      exact ih z.2
  have hd0 : dvs = [] := by
    have := hdv F
    unfold RepDs at this
    exact this
  subst hd0
  refine wpe_of (pe_callSD FO hr (gl_of hg) hm hk hb hd (fun σ => passAt tk σ) (pa_wps hs) hdb (starEach_cons hs'.1) (hpl xs pos hs'.2)) ?_
  simp only [evE] at e
  cases e1 : evEs es ρ with
  | none => rw [e1] at e; cases e
  | some z =>
    obtain ⟨r1, ρ1⟩ := z
    rw [e1] at e
    cases r1 with
    | ex z =>
      cases e
      exact h σ ρ F H fp _ ρ' _ S e1 q
    | ok os =>
      simp only [callV] at e
      cases e3 : sem os with
      | none => rw [e3] at e; cases e
      | some z =>
        obtain ⟨r0, bs⟩ := z
        rw [e3] at e
        simp only [callW] at e
        cases e
        refine h σ ρ F H fp _ ρ' _ S e1 fun vs F1 H1 fp1 fr s1 S1 n1 rvs nd nf => ?_
        obtain ⟨l1, fpA, A, hA⟩ := repOs_args S1.sub rvs nd
        have l2 := evEs_length e1
        have st : ∀ {F2 H2 : Hp}, Step F1 H1 (Own fpA) F2 H2 → SOK (gl X) F2 H2 σ ρ' fp1 := fun s2 => S1.stay s2 fun a ha hb => (nf a (hA a hb)).2 ha
        have nA : ∀ a, Own fpA a → Own fp a ∨ H a = none := fun a ha => (nf a (hA a ha)).1
        refine ⟨by rw [List.append_nil, l1, l2, hl]; rfl, F1, os, fpA, r, bs, by rw [List.append_nil]; exact A, e3, ?_⟩
        cases r with
        | ok o =>
          intro v F2 H2 fp2 fr2 s2 S2 n2 rv nd2 nf2
          refine q v F2 H2 fp1 fr2 (s1.trans s2 nA) (st s2) n1 rv nd2 fun a ha => ⟨own_trans s1 nA (own2 := fun b => b ∈ fr2) (fun b hb => (nf2 b hb).1) a ha, fun z => ?_⟩
          rcases (nf2 a ha).1 with w | w
          · exact (nf a (hA a w)).2 z
          · obtain ⟨_, u, hu⟩ := S1.own z
            rw [w] at hu; cases hu
        | ex z =>
          intro C d F2 H2 fp2 s2 S2 n2 rx
          exact q C d F2 H2 fp1 (s1.trans s2 nA) (st s2) n1 rx
theorem sound_callG {c : CallD} {es : List E} {x : Expr} {xs : List Expr} (B : XOK X) (tk : Takes X W) (hc : CallGOk (gx X) c) (ho : c.sx X.env.scope x = some xs) (h : SoundOs X W xs (evOs es)) : SoundE X W x (evE (.callG c es)) := fun σ ρ F H fp r ρ' Q S e q => by
  rw [evE] at e
  refine hc.run rfl B tk ho ?_
  cases e1 : evOs es ρ with
  | none => rw [e1] at e; cases e
  | some z =>
    obtain ⟨r1, ρ1⟩ := z
    rw [e1] at e
    cases r1 with
    | ex z =>
      cases e
      exact h σ ρ F H fp _ ρ' _ S e1 q
    | ok qs =>
      simp only [callB] at e
      cases e2 : vws ρ1 qs with
      | none => rw [e2] at e; cases e
      | some os =>
        rw [e2] at e
        simp only [callC, List.map_nil, List.append_nil] at e
        split at e
        · rename_i nd
          refine h σ ρ F H fp _ ρ1 _ S e1 fun vs F1 H1 fp1 s1 S1 n1 rs => ?_
          have A := args_ok S1 rs e2 nd (dv := []) (dvs := []) (by unfold RepDs; rfl)
          simp only [List.map_nil, List.append_nil] at A
          have post : ∃ r0 bs, c.sem os = some (r0, bs) ∧ ρ' = giveBack (hideAll ρ1 (lockd ρ1 qs)) (ownIx ρ1 qs) bs ∧ r = r0 := by
            cases e3 : c.sem os with
            | none => rw [e3] at e; cases e
            | some z =>
              obtain ⟨r0, bs⟩ := z
              rw [e3] at e
              cases r0 with
              | ok o =>
                cases e
                exact ⟨_, _, rfl, rfl, rfl⟩
              | ex z =>
                cases e
                exact ⟨_, _, rfl, rfl, rfl⟩
          obtain ⟨r0, bs, e3, rfl, rfl⟩ := post
          refine ⟨rfl, F1, os, _, r, bs, A, e3, ?_⟩
          cases r with
          | ok o =>
            intro v F2 H2 fp2 fr s2 S2 n2 rv nd2 nf2
            obtain ⟨s2', fp', S', n', m'⟩ := after_call S1 rs e2 nd (dvs := []) s2 (by simpa only [List.append_nil] using S2) n2
            have sb : ∀ a, Own (fpArg fp1 (ownIx ρ1 qs)) a → Own fp1 a := fun a ⟨j, hj⟩ => by
              obtain ⟨i, _, hi⟩ := fpArg_mem hj
              exact ⟨i, hi⟩
            refine q v F2 H2 fp' fr (s1.trans s2' n1) S' (own_trans s1 n1 n') rv nd2 fun a ha => ⟨own_trans s1 n1 (own2 := fun b => b ∈ fr) (fun b hb => (nf2 b hb).1.elim (fun z => .inl (sb b z)) .inr) a ha, fun z => ?_⟩
            rcases m' a z with ⟨z1, z2⟩ | z
            · rcases (nf2 a ha).1 with w | w
              · exact z2 w
              · obtain ⟨_, u, hu⟩ := S1.own z1
                rw [w] at hu; cases hu
            · exact (nf2 a ha).2 z
          | ex z =>
            intro C d F2 H2 fp2 s2 S2 n2 rx
            obtain ⟨s2', fp', S', n', m'⟩ := after_call S1 rs e2 nd (dvs := []) s2 (by simpa only [List.append_nil] using S2) n2
            exact q C d F2 H2 fp' (s1.trans s2' n1) S' (own_trans s1 n1 n') rx
        · cases e
theorem sound_callH {c : CallH} {e0 : E} {es : List E} {x o : Expr} {xs : List Expr} (B : XOK X) (tk : Takes X W) (hc : CallHOk (gx X) c) (ho : c.sx X.env.scope x = some (o, xs)) (h0 : SoundE X W o (evE e0)) (h : SoundOs X W xs (evOs es)) : SoundE X W x (evE (.callH c e0 es)) := fun σ ρ F0 H0 fp0 r ρ' Q S0 e q => by
  rw [evE] at e
  refine hc.run rfl B tk ho ?_
  cases e00 : evE e0 ρ with
  | none => rw [e00] at e; cases e
  | some z =>
    obtain ⟨r1, ρ0⟩ := z
    rw [e00] at e
    cases r1 with
    | ex z =>
      cases e
      exact h0 σ ρ F0 H0 fp0 _ ρ' _ S0 e00 q
    | ok o0 =>
      cases o0 with
      | p d0 =>
        refine h0 σ ρ F0 H0 fp0 _ ρ0 _ S0 e00 fun v0 F H fp fr0 s0 S n0 rv0 _ _ => ?_
        have rd : RepD (gl X) F d0 v0 := by
          unfold RepO at rv0
          exact rv0.1
        cases hok : c.ok d0 with
        | false =>
          simp only [hok] at e
          cases e
        | true =>
        simp only [hok] at e
        refine ⟨d0, F, hok, rd, S.sub, ?_⟩
        have e : callB (c.sem d0) [] (consQ d0 (evOs es ρ0)) = some (r, ρ') := e
        cases e1 : evOs es ρ0 with
        | none => rw [e1] at e; cases e
        | some z =>
          obtain ⟨r1, ρ1⟩ := z
          rw [e1] at e
          cases r1 with
          | ex z =>
            cases e
            exact h σ ρ0 F H fp _ ρ' _ S e1 (XPost.after s0 n0 q)
          | ok qs0 =>
            simp only [consQ, callB] at e
            cases e2 : vws ρ1 (.val d0 :: qs0) with
            | none => rw [e2] at e; cases e
            | some os =>
              rw [e2] at e
              simp only [callC, List.map_nil, List.append_nil] at e
              split at e
              · rename_i nd
                refine h σ ρ0 F H fp _ ρ1 _ S e1 fun vs0 F1 H1 fp1 s1' S1 n1' rs0 => ?_
                have s1 := s0.trans s1' n0
                have n1 := own_trans s0 n0 n1'
                have rs : OpdsRep (gl X) F1 σ (.val d0 :: qs0) (v0 :: vs0) := ⟨v0, vs0, rfl, RepD.mono s1'.mono rd, rs0⟩
                have A := args_ok S1 rs e2 nd (dv := []) (dvs := []) (by unfold RepDs; rfl)
                simp only [List.map_nil, List.append_nil] at A
                have post : ∃ r0 bs, c.sem d0 os = some (r0, bs) ∧ ρ' = giveBack (hideAll ρ1 (lockd ρ1 (.val d0 :: qs0))) (ownIx ρ1 (.val d0 :: qs0)) bs ∧ r = r0 := by
                  cases e3 : c.sem d0 os with
                  | none => rw [e3] at e; cases e
                  | some z =>
                    obtain ⟨r0, bs⟩ := z
                    rw [e3] at e
                    cases r0 with
                    | ok o =>
                      cases e
                      exact ⟨_, _, rfl, rfl, rfl⟩
                    | ex z =>
                      cases e
                      exact ⟨_, _, rfl, rfl, rfl⟩
                obtain ⟨r0, bs, e3, rfl, rfl⟩ := post
                refine ⟨rfl, F1, os, _, r, bs, A, e3, ?_⟩
                cases r with
                | ok o =>
                  intro v F2 H2 fp2 fr s2 S2 n2 rv nd2 nf2
                  obtain ⟨s2', fp', S', n', m'⟩ := after_call S1 rs e2 nd (dvs := []) s2 (by simpa only [List.append_nil] using S2) n2
                  have sb : ∀ a, Own (fpArg fp1 (ownIx ρ1 (.val d0 :: qs0))) a → Own fp1 a := fun a ⟨j, hj⟩ => by
                    obtain ⟨i, _, hi⟩ := fpArg_mem hj
                    exact ⟨i, hi⟩
                  refine q v F2 H2 fp' fr (s1.trans s2' n1) S' (own_trans s1 n1 n') rv nd2 fun a ha => ⟨own_trans s1 n1 (own2 := fun b => b ∈ fr) (fun b hb => (nf2 b hb).1.elim (fun z => .inl (sb b z)) .inr) a ha, fun z => ?_⟩
                  rcases m' a z with ⟨z1, z2⟩ | z
                  · rcases (nf2 a ha).1 with w | w
                    · exact z2 w
                    · obtain ⟨_, u, hu⟩ := S1.own z1
                      rw [w] at hu; cases hu
                  · exact (nf2 a ha).2 z
                | ex z =>
                  intro C d F2 H2 fp2 s2 S2 n2 rx
                  obtain ⟨s2', fp', S', n', m'⟩ := after_call S1 rs e2 nd (dvs := []) s2 (by simpa only [List.append_nil] using S2) n2
                  exact q C d F2 H2 fp' (s1.trans s2' n1) S' (own_trans s1 n1 n') rx
              · cases e
      | _ => cases e
/-- a method of a slot's own thing -/
theorem sound_callM {c : CallM} {i : Nat} {es : List E} {x o : Expr} {xs : List Expr} (B : XOK X) (tk : Takes X W) (hc : CallMOk (gx X) c) (ho : c.sx X.env.scope x = some (o, xs)) (hn : nameB X.N X.env.scope i o = true) (h : SoundOs X W xs (evOs es)) : SoundE X W x (evE (.callM c i es)) := fun σ ρ F H fp r ρ' Q S e q => by
  rw [evE] at e
  cases e0 : ρ[i]? with
  | none => rw [e0] at e; cases e
  | some q0 =>
    cases q0 with
    | none => rw [e0] at e; cases e
    | some o0 =>
      rw [e0] at e
      simp only [callMA] at e
      split at e
      · rename_i hk
        obtain ⟨v0, hv, rv⟩ := S.at_ i o0 e0
        have hb : ∀ l, attributeBase o l X.env (eval o X.env) = eval o X.env := by
          obtain ⟨n, pos, rfl, _⟩ := name_of hn
          exact fun l => rfl
        refine hc.run rfl B tk ho (pe_name hn) hb hv S.sub rv hk ?_
        cases e1 : evOs es ρ with
        | none => rw [e1] at e; cases e
        | some z =>
          obtain ⟨r1, ρ1⟩ := z
          rw [e1] at e
          cases r1 with
          | ex z =>
            cases e
            exact h σ ρ F H fp _ ρ' _ S e1 q
          | ok qs0 =>
            simp only [consS, callB] at e
            cases e2 : vws ρ1 (.sl i :: qs0) with
            | none => rw [e2] at e; cases e
            | some os =>
              rw [e2] at e
              simp only [callC, List.map_nil, List.append_nil] at e
              split at e
              · rename_i nd
                refine h σ ρ F H fp _ ρ1 _ S e1 fun vs0 F1 H1 fp1 s1 S1 n1 rs0 => ?_
                have rs : OpdsRep (gl X) F1 σ (.sl i :: qs0) (v0 :: vs0) := ⟨v0, vs0, rfl, hv, rs0⟩
                have A := args_ok S1 rs e2 nd (dv := []) (dvs := []) (by unfold RepDs; rfl)
                simp only [List.map_nil, List.append_nil] at A
                have post : ∃ r0 bs, c.sem os = some (r0, bs) ∧ ρ' = giveBack (hideAll ρ1 (lockd ρ1 (.sl i :: qs0))) (ownIx ρ1 (.sl i :: qs0)) bs ∧ r = r0 := by
                  cases e3 : c.sem os with
                  | none => rw [e3] at e; cases e
                  | some z =>
                    obtain ⟨r0, bs⟩ := z
                    rw [e3] at e
                    cases r0 with
                    | ok o =>
                      cases e
                      exact ⟨_, _, rfl, rfl, rfl⟩
                    | ex z =>
                      cases e
                      exact ⟨_, _, rfl, rfl, rfl⟩
                obtain ⟨r0, bs, e3, rfl, rfl⟩ := post
                refine ⟨rfl, F1, os, _, r, bs, A, e3, ?_⟩
                cases r with
                | ok o =>
                  intro v F2 H2 fp2 fr s2 S2 n2 rv nd2 nf2
                  obtain ⟨s2', fp', S', n', m'⟩ := after_call S1 rs e2 nd (dvs := []) s2 (by simpa only [List.append_nil] using S2) n2
                  have sb : ∀ a, Own (fpArg fp1 (ownIx ρ1 (.sl i :: qs0))) a → Own fp1 a := fun a ⟨j, hj⟩ => by
                    obtain ⟨i, _, hi⟩ := fpArg_mem hj
                    exact ⟨i, hi⟩
                  refine q v F2 H2 fp' fr (s1.trans s2' n1) S' (own_trans s1 n1 n') rv nd2 fun a ha => ⟨own_trans s1 n1 (own2 := fun b => b ∈ fr) (fun b hb => (nf2 b hb).1.elim (fun z => .inl (sb b z)) .inr) a ha, fun z => ?_⟩
                  rcases m' a z with ⟨z1, z2⟩ | z
                  · rcases (nf2 a ha).1 with w | w
                    · exact z2 w
                    · obtain ⟨_, u, hu⟩ := S1.own z1
                      rw [w] at hu; cases hu
                  · exact (nf2 a ha).2 z
                | ex z =>
                  intro C d F2 H2 fp2 s2 S2 n2 rx
                  obtain ⟨s2', fp', S', n', m'⟩ := after_call S1 rs e2 nd (dvs := []) s2 (by simpa only [List.append_nil] using S2) n2
                  exact q C d F2 H2 fp' (s1.trans s2' n1) S' (own_trans s1 n1 n') rx
              · cases e
      · cases e
theorem opds_app {g : Gl} {F : Hp} {σ : St} : ∀ {qs ps : List Opd} {vs ws : List V}, OpdsRep g F σ qs vs → OpdsRep g F σ ps ws → OpdsRep g F σ (qs ++ ps) (vs ++ ws)
  | [], ps, vs, ws, h, h' => by
    unfold OpdsRep at h
    subst h
    exact h'
  | q :: qs, ps, vs, ws, h, h' => by
    unfold OpdsRep at h
    obtain ⟨v, r, rfl, h1, h2⟩ := h
    show OpdsRep g F σ (q :: (qs ++ ps)) (v :: (r ++ ws))
    unfold OpdsRep
    exact ⟨v, r ++ ws, rfl, h1, opds_app h2 h'⟩
theorem OpdsRep.mono {g : Gl} {F F' : Hp} {σ : St} (s : Sub F F') : ∀ {qs : List Opd} {vs : List V}, OpdsRep g F σ qs vs → OpdsRep g F' σ qs vs
  | [], vs, h => h
  | q :: qs, vs, h => by
    unfold OpdsRep at h ⊢
    obtain ⟨v, r, rfl, h1, h2⟩ := h
    exact ⟨v, r, rfl, h1.mono s, OpdsRep.mono s h2⟩
/-- a slot that was locked comes back -/
theorem SOK.unlock {g : Gl} {F H F1 H1 : Hp} {σ : St} {ρ ρ1 : Ev} {fp fp1 : Nat → List Addr} {i : Nat} {o : O} {v : V} (S : SOK g F H σ ρ fp) (h0 : ρ[i]? = some (some o)) (hv : σ[i]? = some (some v)) (rv : RepO g F H o v (fp i)) (s1 : Step F H (Own fun j => if j = i then [] else fp j) F1 H1) (S1 : SOK g F1 H1 σ ρ1 fp1) (n1 : ∀ a, Own fp1 a → Own (fun j => if j = i then [] else fp j) a ∨ H a = none) :
    Step F H (Own fp) F1 H1 ∧ KeepsAt (fp i) H H1 ∧ RepO g F1 H1 o v (fp i) ∧ ∃ fp2, SOK g F1 H1 σ (ρ1.set i (some o)) fp2 ∧ (∀ a, Own fp2 a → Own fp a ∨ H a = none) ∧ fp2 i = fp i := by
  have no : ∀ a ∈ fp i, ¬ Own (fun j => if j = i then [] else fp j) a := fun a ha => S.hide_no ha
  have kp : KeepsAt (fp i) H H1 := fun a ha u hu => s1.keep a u hu (no a ha)
  have rv1 : RepO g F1 H1 o v (fp i) := rv.stay s1 no
  have hi : i < ρ1.length := by
    have := S1.len
    have h1 := (List.getElem?_eq_some_iff.mp hv).1
    omega
  have dj : ∀ a ∈ fp i, ¬ Own fp1 a := fun a ha h => by
    rcases n1 a h with z | z
    · exact no a ha z
    · obtain ⟨_, u, hu⟩ := S.own ⟨i, ha⟩
      rw [z] at hu; cases hu
  have S2 := (S1.hide i).put (i := i) (o := o) (v := v) (fr := fp i) (by rw [List.length_set]; exact hi) hv rv1 (S.nd i) (fun a ha j hj z => by
    rw [if_neg hj] at z
    exact dj a ha ⟨j, z⟩)
  rw [List.set_set] at S2
  refine ⟨⟨s1.mono, s1.sub, fun a u e n => s1.keep a u e fun z => n (own_hide z), fun a u e => (s1.newF a u e).elim .inl fun z => z.elim (fun z => .inr (.inl z)) fun z => .inr (.inr (own_hide z))⟩, kp, rv1, _, S2, fun a ⟨j, hj⟩ => ?_, ?_⟩
  · dsimp only at hj
    by_cases e : j = i
    · rw [if_pos e] at hj
      exact .inl ⟨i, hj⟩
    · rw [if_neg e, if_neg e] at hj
      exact (n1 a ⟨j, hj⟩).elim (fun z => .inl (own_hide z)) .inr
  · simp
theorem sound_callL {c : CallL} {i : Nat} {es fs : List E} {x o : Expr} {xs ys : List Expr} (B : XOK X) (tk : Takes X W) (hc : CallLOk (gx X) c) (ho : c.sx X.env.scope x = some (o, xs, ys)) (hn : nameB X.N X.env.scope i o = true) (h : SoundOs X W xs (evOs es)) (h' : SoundOs X W ys (evOs fs)) : SoundE X W x (evE (.callL c i es fs)) := fun σ ρ F H fp r ρ' Q S e q => by
  rw [evE] at e
  cases e0 : ρ[i]? with
  | none => rw [e0] at e; cases e
  | some q0 =>
    cases q0 with
    | none => rw [e0] at e; cases e
    | some o0 =>
      rw [e0] at e
      simp only [callLA] at e
      cases hk : c.ok o0 with
      | false => rw [hk] at e; cases e
      | true =>
        rw [hk] at e
        simp only [callLC] at e
        obtain ⟨v0, hv, rv⟩ := S.at_ i o0 e0
        have hb : ∀ l, attributeBase o l X.env (eval o X.env) = eval o X.env := by
          obtain ⟨n, pos, rfl, _⟩ := name_of hn
          exact fun l => rfl
        refine hc.run rfl B tk ho (pe_name hn) hb hv S.sub rv (S.nd i) hk ?_
        have Sh := S.hide i
        cases e1 : evOs es (ρ.set i none) with
        | none => rw [e1] at e; cases e
        | some z =>
          obtain ⟨r1, ρ1⟩ := z
          rw [e1] at e
          cases r1 with
          | ex z =>
            cases e
            refine h σ _ F H _ _ ρ1 _ Sh e1 fun C d F1 H1 fp1 s1 S1 n1 rx => ?_
            obtain ⟨s2, _, _, fp2, S2, n2, _⟩ := S.unlock e0 hv rv s1 S1 n1
            exact q C d F1 H1 fp2 s2 S2 n2 rx
          | ok qs1 =>
            simp only [bindQ] at e
            refine h σ _ F H _ _ ρ1 _ Sh e1 fun vs1 F1 H1 fp1 s1 S1 n1 rs1 => ?_
            refine ⟨(S.unlock e0 hv rv s1 S1 n1).2.1, ?_⟩
            cases e1' : evOs fs ρ1 with
            | none => rw [e1'] at e; cases e
            | some z =>
              obtain ⟨r2, ρ2⟩ := z
              rw [e1'] at e
              cases r2 with
              | ex z =>
                cases e
                refine h' σ ρ1 F1 H1 fp1 _ ρ2 _ S1 e1' fun C d F2 H2 fp2 s2 S2 n2 rx => ?_
                obtain ⟨s3, _, _, fp3, S3, n3, _⟩ := S.unlock e0 hv rv (s1.trans s2 n1) S2 (own_trans s1 n1 n2)
                exact q C d F2 H2 fp3 s3 S3 n3 rx
              | ok qs2 =>
                simp only [appQ, unlQ, consS, callB] at e
                refine h' σ ρ1 F1 H1 fp1 _ ρ2 _ S1 e1' fun vs2 F2 H2 fp2 s2 S2 n2 rs2 => ?_
                obtain ⟨s3, kp, rv3, fp3, S3, n3, _⟩ := S.unlock e0 hv rv (s1.trans s2 n1) S2 (own_trans s1 n1 n2)
                refine ⟨kp, ?_⟩
                generalize ρ2.set i (some o0) = ρ3 at e S3
                have rs : OpdsRep (gl X) F2 σ (.sl i :: (qs1 ++ qs2)) (v0 :: (vs1 ++ vs2)) := ⟨v0, _, rfl, hv, opds_app (rs1.mono s2.mono) rs2⟩
                generalize qs1 ++ qs2 = qs0 at e rs
                have hlen : vs1.length + vs2.length + 1 = (v0 :: (vs1 ++ vs2)).length := by rw [List.length_cons, List.length_append]
                rw [hlen]
                generalize v0 :: (vs1 ++ vs2) = vs at rs
                cases e2 : vws ρ3 (.sl i :: qs0) with
                | none => rw [e2] at e; cases e
                | some os =>
                  rw [e2] at e
                  simp only [callC, List.map_nil, List.append_nil] at e
                  split at e
                  · rename_i nd
                    have A := args_ok S3 rs e2 nd (dv := []) (dvs := []) (by unfold RepDs; rfl)
                    simp only [List.map_nil, List.append_nil] at A
                    have post : ∃ r0 bs, c.sem os = some (r0, bs) ∧ ρ' = giveBack (hideAll ρ3 (lockd ρ3 (.sl i :: qs0))) (ownIx ρ3 (.sl i :: qs0)) bs ∧ r = r0 := by
                      cases e3 : c.sem os with
                      | none => rw [e3] at e; cases e
                      | some z =>
                        obtain ⟨r0, bs⟩ := z
                        rw [e3] at e
                        cases r0 with
                        | ok o =>
                          cases e
                          exact ⟨_, _, rfl, rfl, rfl⟩
                        | ex z =>
                          cases e
                          exact ⟨_, _, rfl, rfl, rfl⟩
                    obtain ⟨r0, bs, e3, rfl, rfl⟩ := post
                    refine ⟨rfl, F2, os, _, r, bs, A, e3, ?_⟩
                    cases r with
                    | ok o =>
                      intro v F4 H4 fp4 fr s4 S4 n4 rv4 nd4 nf4
                      obtain ⟨s4', fp', S', n', m'⟩ := after_call S3 rs e2 nd (dvs := []) s4 (by simpa only [List.append_nil] using S4) n4
                      have sb : ∀ a, Own (fpArg fp3 (ownIx ρ3 (.sl i :: qs0))) a → Own fp3 a := fun a ⟨j, hj⟩ => by
                        obtain ⟨i, _, hi⟩ := fpArg_mem hj
                        exact ⟨i, hi⟩
                      refine q v F4 H4 fp' fr (s3.trans s4' n3) S' (own_trans s3 n3 n') rv4 nd4 fun a ha => ⟨own_trans s3 n3 (own2 := fun b => b ∈ fr) (fun b hb => (nf4 b hb).1.elim (fun z => .inl (sb b z)) .inr) a ha, fun z => ?_⟩
                      rcases m' a z with ⟨z1, z2⟩ | z
                      · rcases (nf4 a ha).1 with w | w
                        · exact z2 w
                        · obtain ⟨_, u, hu⟩ := S3.own z1
                          rw [w] at hu; cases hu
                      · exact (nf4 a ha).2 z
                    | ex z =>
                      intro C d F4 H4 fp4 s4 S4 n4 rx
                      obtain ⟨s4', fp', S', n', m'⟩ := after_call S3 rs e2 nd (dvs := []) s4 (by simpa only [List.append_nil] using S4) n4
                      exact q C d F4 H4 fp' (s3.trans s4' n3) S' (own_trans s3 n3 n') rx
                  · cases e
/-- a method that changes a slot's thing -/
theorem sound_mut {p : MutD} {i : Nat} {es : List E} {o : Expr} {xs : List Expr} {ap cp : Pos} (B : XOK X) (hp : MutOk (gx X) p) (hn : nameB X.N X.env.scope i o = true) (h2 : xs.length ≤ 2) (hs : xs.all notStar = true) (hl : (ap.endLine == cp.line) = true) (h : SoundOs X W xs (evOs es)) : SoundE X W (.Call (.Attribute o p.nm ap) xs [] cp) (evE (.mut p i es)) := fun σ ρ F H fp r ρ' Q S e q => by
  rw [evE] at e
  cases e0 : ρ[i]? with
  | none => rw [e0] at e; cases e
  | some q0 =>
    cases q0 with
    | none => rw [e0] at e; cases e
    | some o0 =>
      rw [e0] at e
      simp only [mutA] at e
      split at e
      · rename_i hk
        obtain ⟨v, hv, rv⟩ := S.at_ i o0 e0
        have hb : ∀ l, attributeBase o l X.env (eval o X.env) = eval o X.env := by
          obtain ⟨n, pos, rfl, _⟩ := name_of hn
          exact fun l => rfl
        refine hp.run rfl B (pe_name hn) h2 hs hl hb hv S.sub rv hk ?_
        cases e1 : evOs es ρ with
        | none => rw [e1] at e; cases e
        | some z =>
          obtain ⟨r1, ρ1⟩ := z
          rw [e1] at e
          cases r1 with
          | ex z =>
            cases e
            exact h σ ρ F H fp _ ρ' _ S e1 q
          | ok qs =>
            simp only [mutB] at e
            cases e2 : ρ1[i]? with
            | none => rw [e2] at e; cases e
            | some w =>
              cases w with
              | none => rw [e2] at e; cases e
              | some o1 =>
                cases e3 : vws ρ1 qs with
                | none => rw [e2, e3] at e; cases e
                | some os =>
                  rw [e2, e3] at e
                  simp only [mutC] at e
                  cases e4 : p.ev o1 os with
                  | none => rw [e4] at e; cases e
                  | some od =>
                    obtain ⟨o2, d⟩ := od
                    rw [e4] at e
                    cases e
                    refine h σ ρ F H fp _ ρ1 _ S e1 fun vs F1 H1 fp1 s1 S1 n1 rs => ?_
                    obtain ⟨v1, hv1, rv1⟩ := S1.at_ i o1 e2
                    rw [hv] at hv1
                    cases hv1
                    refine ⟨F1, o1, fp1 i, os, o2, d, S1.sub, rv1, vws_rep S1 rs e3, e4, fun u F2 H2 as2 m2 sb2 k2 nw2 r2 nd2 nf2 ru => ?_⟩
                    have st : Step F1 H1 (fun b => b ∈ fp1 i) F2 H2 := ⟨m2, sb2, fun b w e n => k2 b w e n, fun b w e => (nw2 b w e).elim .inl fun z => .inr (.inl z)⟩
                    have Sh : SOK (gl X) F2 H2 σ (ρ1.set i none) (fun j => if j = i then [] else fp1 j) := (S1.hide i).stay st fun b hb hm => S1.hide_no hm hb
                    have hi : i < ρ1.length := (List.getElem?_eq_some_iff.mp e2).1
                    have S2 := Sh.put (i := i) (o := o2) (v := v) (fr := as2) (by rw [List.length_set]; exact hi) hv r2 nd2 (fun b hb j hj z => by
                      rw [if_neg hj] at z
                      rcases nf2 b hb with y | y
                      · exact hj (S1.dj j i b z y)
                      · obtain ⟨_, w, hw⟩ := S1.own ⟨j, z⟩
                        rw [y] at hw; cases hw)
                    rw [List.set_set] at S2
                    have so : Step F1 H1 (Own fp1) F2 H2 := ⟨st.mono, st.sub, fun b w e n => st.keep b w e fun z => n ⟨i, z⟩, fun b w e => (st.newF b w e).elim .inl fun z => z.elim (fun z => .inr (.inl z)) fun z => .inr (.inr ⟨i, z⟩)⟩
                    have n2 : ∀ b, Own (fun j => if j = i then as2 else if j = i then [] else fp1 j) b → Own fp1 b ∨ H1 b = none := fun b ⟨j, hj⟩ => by
                      dsimp only at hj
                      by_cases ej : j = i
                      · rw [if_pos ej] at hj
                        exact (nf2 b hj).elim (fun z => .inl ⟨i, z⟩) .inr
                      · rw [if_neg ej, if_neg ej] at hj
                        exact .inl ⟨j, hj⟩
                    exact q u F2 H2 _ [] (s1.trans so n1) S2 (own_trans s1 n1 n2) (by unfold RepO; exact ⟨ru, rfl⟩) List.nodup_nil (by simp)
      · cases e
/-- something taken out of a slot's thing -/
theorem sound_own {p : OwnD} {i : Nat} {es : List E} {x o : Expr} {xs : List Expr} (B : XOK X) (hp : OwnOk (gx X) p) (ho : p.sx X.env.scope x = some (o, xs)) (hn : nameB X.N X.env.scope i o = true) (h : SoundOs X W xs (evOs es)) : SoundE X W x (evE (.own p i es)) := fun σ ρ F H fp r ρ' Q S e q => by
  rw [evE] at e
  cases e0 : ρ[i]? with
  | none => rw [e0] at e; cases e
  | some q0 =>
    cases q0 with
    | none => rw [e0] at e; cases e
    | some o0 =>
      rw [e0] at e
      simp only [owA] at e
      split at e
      · rename_i hk
        obtain ⟨v, hv, rv⟩ := S.at_ i o0 e0
        have hb : ∀ l, attributeBase o l X.env (eval o X.env) = eval o X.env := by
          obtain ⟨n, pos, rfl, _⟩ := name_of hn
          exact fun l => rfl
        refine hp.run rfl B ho (pe_name hn) hb hv S.sub rv hk ?_
        cases e1 : evOs es ρ with
        | none => rw [e1] at e; cases e
        | some z =>
          obtain ⟨r1, ρ1⟩ := z
          rw [e1] at e
          cases r1 with
          | ex z =>
            cases e
            exact h σ ρ F H fp _ ρ' _ S e1 q
          | ok qs =>
            simp only [owB] at e
            cases e2 : ρ1[i]? with
            | none => rw [e2] at e; cases e
            | some w =>
              cases w with
              | none => rw [e2] at e; cases e
              | some o1 =>
                cases e3 : vws ρ1 qs with
                | none => rw [e2, e3] at e; cases e
                | some os =>
                  rw [e2, e3] at e
                  simp only [owC] at e
                  cases e4 : p.ev o1 os with
                  | none => rw [e4] at e; cases e
                  | some o2 =>
                    rw [e4] at e
                    cases e
                    refine h σ ρ F H fp _ ρ1 _ S e1 fun vs F1 H1 fp1 s1 S1 n1 rs => ?_
                    obtain ⟨v1, hv1, rv1⟩ := S1.at_ i o1 e2
                    rw [hv] at hv1
                    cases hv1
                    refine ⟨F1, o1, fp1 i, os, o2, S1.sub, rv1, S1.nd i, vws_rep S1 rs e3, e4, fun u F2 H2 as2 m2 sb2 k2 nw2 r2 nd2 nf2 => ?_⟩
                    have st : Step F1 H1 (fun b => b ∈ fp1 i) F2 H2 := ⟨m2, sb2, fun b w e n => k2 b w e n, fun b w e => (nw2 b w e).elim .inl fun z => .inr (.inl z)⟩
                    have Sh : SOK (gl X) F2 H2 σ (ρ1.set i none) (fun j => if j = i then [] else fp1 j) := (S1.hide i).stay st fun b hb hm => S1.hide_no hm hb
                    have so : Step F1 H1 (Own fp1) F2 H2 := ⟨st.mono, st.sub, fun b w e n => st.keep b w e fun z => n ⟨i, z⟩, fun b w e => (st.newF b w e).elim .inl fun z => z.elim (fun z => .inr (.inl z)) fun z => .inr (.inr ⟨i, z⟩)⟩
                    refine q u F2 H2 _ as2 (s1.trans so n1) Sh (own_trans s1 n1 fun b hb => .inl (own_hide hb)) r2 nd2 fun b hb => ⟨own_trans s1 n1 (own2 := fun b => b ∈ as2) (fun b hb => (nf2 b hb).elim (fun z => .inl ⟨i, z⟩) .inr) b hb, fun z => ?_⟩
                    rcases nf2 b hb with y | y
                    · exact S1.hide_no y z
                    · obtain ⟨_, w, hw⟩ := S1.own (own_hide z)
                      rw [y] at hw; cases hw
      · cases e
def TPost (g : Gl) (F H : Hp) (σ : St) (fp : Nat → List Addr) (ρ' : Ev) (b : Bool) (Q : Bool → Hp → Prop) : Prop :=
  ∀ F' H' fp', Step F H (Own fp) F' H' → SOK g F' H' σ ρ' fp' → (∀ a, Own fp' a → Own fp a ∨ H a = none) → Q b H'
def RT (g : Gl) (F H : Hp) (σ : St) (fp : Nat → List Addr) (W : WX) (Q : Bool → Hp → Prop) (ρ' : Ev) : R O → Prop
  | .ok (.p (.bl b)) => TPost g F H σ fp ρ' b Q
  | .ok _ => False
  | .ex x => XPost g F H σ fp ρ' x W
def SoundT (X : Cx) (W : WX) (x : Expr) (ev : Ev → Res O) : Prop := ∀ σ ρ F H fp r ρ' Q, SOK (gl X) F H σ ρ fp → ev ρ = some (r, ρ') → RT (gl X) F H σ fp W Q ρ' r → WPT X x σ H Q
theorem RT.rp {g : Gl} {F H : Hp} {σ : St} {fp : Nat → List Addr} {Q : Bool → Hp → Prop} {ρ' : Ev} {r : R O} (h : RT g F H σ fp W Q ρ' r) : RPost g F H σ fp W (fun v H' => ∃ k, v = .bl k ∧ Q k H') ρ' r := by
  cases r with
  | ex x => exact h
  | ok o =>
    cases o with
    | p d =>
      cases d with
      | bl b => exact fun v F' H' fp' fr s S n rv nd nf => ⟨b, (repO_p rv).bl', h F' H' fp' s S n⟩
      | _ => exact h.elim
    | _ => exact h.elim
theorem TPost.after {g : Gl} {F H F1 H1 : Hp} {σ : St} {fp fp1 : Nat → List Addr} {ρ' : Ev} {b : Bool} {Q : Bool → Hp → Prop} (h : TPost g F H σ fp ρ' b Q) (s : Step F H (Own fp) F1 H1) (n : ∀ a, Own fp1 a → Own fp a ∨ H a = none) : TPost g F1 H1 σ fp1 ρ' b Q :=
  fun F' H' fp' s' S' n' => h F' H' fp' (s.trans s' n) S' (own_trans s n n')
theorem RT.after {g : Gl} {F H F1 H1 : Hp} {σ : St} {fp fp1 : Nat → List Addr} {ρ' : Ev} {r : R O} {Q : Bool → Hp → Prop} (h : RT g F H σ fp W Q ρ' r) (s : Step F H (Own fp) F1 H1) (n : ∀ a, Own fp1 a → Own fp a ∨ H a = none) : RT g F1 H1 σ fp1 W Q ρ' r := by
  cases r with
  | ex x => exact XPost.after s n h
  | ok o =>
    cases o with
    | p d =>
      cases d with
      | bl b => exact TPost.after h s n
      | _ => exact h.elim
    | _ => exact h.elim
theorem plainT_is {e : Expr} {env : Env} (h : plainT e = true) : ∀ whole, isTrue e env whole = (do let v ← whole; standAt e.pos; holding [v] (truthy v)) := by
  cases e <;> first | (intro _; rfl) | cases h
theorem soundT_plain {x : Expr} {ev : Ev → Res O} (hp : plainT x = true) (h : SoundE X W x ev) : SoundT X W x ev := fun σ ρ F H fp r ρ' Q S e q =>
  wpt_of (pt_val pe_wp (plainT_is hp)) (h σ ρ F H fp r ρ' _ S e q.rp)
theorem soundT_cmp {p : Prim} {es : List E} {x : Expr} {xs : List Expr} (B : XOK X) (hc : cmpOp? p ≠ none) (ho : opnds p X.env.scope x = some xs) (h : SoundOs X W xs (evOs es)) : SoundT X W x (evE (.prim p es)) := fun σ ρ F H fp r ρ' Q S e q => by
  simp only [evE] at e
  split at e
  · rename_i qs ρ1 e1
    split at e
    · rename_i os e2
      split at e
      · rename_i o e3
        cases e
        refine primOkT B p hc ho (h σ ρ F H fp _ ρ' _ S e1 fun vs F1 H1 fp1 s1 S1 n1 rs => ?_)
        exact ⟨F1, os, o, S1.sub, vws_rep S1 rs e2, e3, EPost.pp (RT.rp q) s1 S1 n1⟩
      · cases e
    · cases e
  · rename_i z ρ1 e1
    cases e
    exact primOkT B p hc ho (h σ ρ F H fp _ ρ' _ S e1 q)
  · cases e
theorem soundT_plugT {p : Plug} {es : List E} {x : Expr} {xs : List Expr} (B : XOK X) (hp : PlugTOk (gx X) p) (ho : p.sx X.env.scope x = some xs) (h : SoundOs X W xs (evOs es)) : SoundT X W x (evE (.plugT p es)) := fun σ ρ F H fp r ρ' Q S e q => by
  rw [evE] at e
  cases e1 : evOs es ρ with
  | none => rw [e1] at e; cases e
  | some z =>
    obtain ⟨r1, ρ1⟩ := z
    rw [e1] at e
    cases r1 with
    | ex z =>
      cases e
      exact hp.tst rfl B ho (h σ ρ F H fp _ ρ' _ S e1 q)
    | ok qs =>
      simp only [plugB] at e
      cases e2 : vws ρ1 qs with
      | none => rw [e2] at e; cases e
      | some os =>
        rw [e2] at e
        simp only [plugC] at e
        cases e3 : p.ev os with
        | none => rw [e3] at e; cases e
        | some o =>
          rw [e3] at e
          cases e
          refine hp.tst rfl B ho (h σ ρ F H fp _ ρ' _ S e1 fun vs F1 H1 fp1 s1 S1 n1 rs => ?_)
          exact ⟨F1, os, o, S1.sub, vws_rep S1 rs e2, e3, EPost.pp (RT.rp q) s1 S1 n1⟩
theorem soundT_lend {e : E} {x : Expr} (h : SoundT X W x (evE e)) : SoundT X W x (evE (.lend e)) := fun σ ρ F H fp r ρ' Q S ev q => by
  simp only [evE] at ev
  obtain ⟨d, ρ1, e1, hd, rfl, rfl⟩ := lend_some ev
  refine h σ (viewE ρ') (frzF F H (owns σ fp)) H (fun _ => []) _ ρ1 _ (view_sok S) e1 ?_
  cases d with
  | bl b =>
    intro F1 H1 fp1 s1 S1 n1
    have s2 := lend_step S.sub (owns_none S) s1
    exact (show TPost (gl X) F H σ fp ρ' b Q from q) F H1 fp s2.any (S.stay s2 fun _ _ z => z) fun a z => .inl z
  | _ => exact q
theorem soundT_not {e : E} {x : Expr} {pos : Pos} (h : SoundT X W x (evE e)) : SoundT X W (.UnaryOp .Not x pos) (evE (.not_ e)) := fun σ ρ F H fp r ρ' Q S ev q => by
  simp only [evE] at ev
  split at ev
  · rename_i b ρ1 e1
    cases ev
    exact wpt_of (pt_not pt_wp) (h σ ρ F H fp _ ρ' (fun c H' => Q (!c) H') S e1 fun F1 H1 fp1 s1 S1 n1 => q F1 H1 fp1 s1 S1 n1)
  · rename_i z ρ1 e1
    cases ev
    exact wpt_of (pt_not pt_wp) (h σ ρ F H fp _ ρ' (fun c H' => Q (!c) H') S e1 q)
  · cases ev
def WPW (X : Cx) (e : Expr) (σ : St) (H : Hp) (Q : Bool → Hp → Prop) : Prop := ∀ whole pins s, Inv X pins σ H s → wpAny (model X.prog X.w) X.A (isTrue e X.env whole) (TP X pins σ Q) X.xe s
theorem pw_wp {e : Expr} : PW X e (WPW X e) := ⟨fun wh pins s σ H Q I h => h wh pins s I⟩
theorem wpw_of {e : Expr} {t : TT} {σ : St} {H : Hp} {Q : Bool → Hp → Prop} (h : PW X e t) (q : t σ H Q) : WPW X e σ H Q := fun wh pins s I => h.run wh pins s σ H Q I q
def SoundW (X : Cx) (W : WX) (x : Expr) (ev : Ev → Res O) : Prop := ∀ σ ρ F H fp r ρ' Q, SOK (gl X) F H σ ρ fp → ev ρ = some (r, ρ') → RT (gl X) F H σ fp W Q ρ' r → WPW X x σ H Q
theorem soundT_of {x : Expr} {ev : Ev → Res O} (h : SoundW X W x ev) : SoundT X W x ev := fun σ ρ F H fp r ρ' Q S e q => wpt_of (pw_wp.pt) (h σ ρ F H fp r ρ' Q S e q)
theorem soundW_and1 {e : E} {x : Expr} {pos : Pos} (h : SoundT X W x (evE e)) : SoundW X W (.BoolOp .And [x] pos) (evAnd [e]) := fun σ ρ F H fp r ρ' Q S ev q => by
  simp only [evAnd] at ev
  exact wpw_of (pw_and1 pt_wp) (h σ ρ F H fp _ ρ' _ S ev q)
theorem soundW_or1 {e : E} {x : Expr} {pos : Pos} (h : SoundT X W x (evE e)) : SoundW X W (.BoolOp .Or [x] pos) (evOr [e]) := fun σ ρ F H fp r ρ' Q S ev q => by
  simp only [evOr] at ev
  exact wpw_of (pw_or1 pt_wp) (h σ ρ F H fp _ ρ' _ S ev q)
theorem soundW_and {e e2 : E} {es : List E} {x x2 : Expr} {xs : List Expr} {pos : Pos} (h : SoundT X W x (evE e)) (h2 : SoundW X W (.BoolOp .And (x2 :: xs) pos) (evAnd (e2 :: es))) : SoundW X W (.BoolOp .And (x :: x2 :: xs) pos) (evAnd (e :: e2 :: es)) := fun σ ρ F H fp r ρ' Q S ev q => by
  rw [evAnd] at ev
  split at ev
  · rename_i ρ1 e1
    refine wpw_of (pw_and pt_wp pw_wp) (h σ ρ F H fp _ ρ1 _ S e1 fun F1 H1 fp1 s1 S1 n1 => ?_)
    exact iteT (h2 σ ρ1 F1 H1 fp1 r ρ' _ S1 ev (RT.after q s1 n1))
  · rename_i ρ1 e1
    cases ev
    exact wpw_of (pw_and pt_wp (pw_wp (e := .BoolOp .And (x2 :: xs) pos))) (h σ ρ F H fp _ ρ' _ S e1 fun F1 H1 fp1 s1 S1 n1 => iteF (q F1 H1 fp1 s1 S1 n1))
  · rename_i z ρ1 e1
    cases ev
    exact wpw_of (pw_and pt_wp (pw_wp (e := .BoolOp .And (x2 :: xs) pos))) (h σ ρ F H fp _ ρ' _ S e1 q)
  · cases ev
  · intro z; cases z
theorem soundW_or {e e2 : E} {es : List E} {x x2 : Expr} {xs : List Expr} {pos : Pos} (h : SoundT X W x (evE e)) (h2 : SoundW X W (.BoolOp .Or (x2 :: xs) pos) (evOr (e2 :: es))) : SoundW X W (.BoolOp .Or (x :: x2 :: xs) pos) (evOr (e :: e2 :: es)) := fun σ ρ F H fp r ρ' Q S ev q => by
  rw [evOr] at ev
  split at ev
  · rename_i ρ1 e1
    refine wpw_of (pw_or pt_wp pw_wp) (h σ ρ F H fp _ ρ1 _ S e1 fun F1 H1 fp1 s1 S1 n1 => ?_)
    exact iteF (h2 σ ρ1 F1 H1 fp1 r ρ' _ S1 ev (RT.after q s1 n1))
  · rename_i ρ1 e1
    cases ev
    exact wpw_of (pw_or pt_wp (pw_wp (e := .BoolOp .Or (x2 :: xs) pos))) (h σ ρ F H fp _ ρ' _ S e1 fun F1 H1 fp1 s1 S1 n1 => iteT (q F1 H1 fp1 s1 S1 n1))
  · rename_i z ρ1 e1
    cases ev
    exact wpw_of (pw_or pt_wp (pw_wp (e := .BoolOp .Or (x2 :: xs) pos))) (h σ ρ F H fp _ ρ' _ S e1 q)
  · cases ev
  · intro z; cases z
theorem soundT_cmp2 {p q : Prim} {a b c : E} {x1 x2 x3 : Expr} {o1 o2 : CmpOp} {pos : Pos} (h1 : zOp p o1 = true) (h2 : zOp q o2 = true) (h3 : notSet x3 = true) (ha : SoundE X W x1 (evE a)) (hb : SoundE X W x2 (evE b)) (hc : SoundE X W x3 (evE c)) : SoundT X W (.Compare x1 [o1, o2] [x2, x3] pos) (evE (.cmp2 p q a b c)) := fun σ ρ F H fp r ρ' Q S e qq =>
  wpt_of (pt_chain (zOp_ok h1) (zOp_ok h2) pe_wp pe_wp pe_wp (zMarks h1 h2 h3)) (cmp2_reads ha hb hc S e qq.rp)
theorem sound_ite {t a b : E} {c x1 x2 : Expr} {pos : Pos} (hc : SoundT X W c (evE t)) (ha : SoundE X W x1 (evE a)) (hb : SoundE X W x2 (evE b)) : SoundE X W (.IfExp c x1 x2 pos) (evE (.ite t a b)) := fun σ ρ F H fp r ρ' Q S e q => by
  simp only [evE] at e
  refine wpe_of (pe_ifExp pt_wp pe_wp pe_wp) ?_
  split at e
  · rename_i ρ1 e1
    refine hc σ ρ F H fp _ ρ1 _ S e1 fun F1 H1 fp1 s1 S1 n1 => ?_
    exact iteT (ha σ ρ1 F1 H1 fp1 r ρ' _ S1 e (RPost.after q s1 n1))
  · rename_i ρ1 e1
    refine hc σ ρ F H fp _ ρ1 _ S e1 fun F1 H1 fp1 s1 S1 n1 => ?_
    exact iteF (hb σ ρ1 F1 H1 fp1 r ρ' _ S1 e (RPost.after q s1 n1))
  · rename_i z ρ1 e1
    cases e
    exact hc σ ρ F H fp _ _ _ S e1 q
  · cases e
theorem repVsP_of {g : Gl} {F H : Hp} {P : Addr → Prop} : ∀ {os : List O} {vs : List V} {f : Nat → List Addr}, os.length = vs.length → (∀ (j : Nat) (o : O), os[j]? = some o → ∃ v, vs[j]? = some v ∧ RepO g F H o v (f j)) → (∀ j, ∀ a ∈ f j, P a) → RepVsP g F H P os vs
  | [], vs, f, l, h, p => by
    have : vs = [] := List.length_eq_zero_iff.mp l.symm
    exact this
  | o :: os, [], f, l, h, p => by simp at l
  | o :: os, v :: vs, f, l, h, p => by
    obtain ⟨v', hv, r⟩ := h 0 o rfl
    cases hv
    exact ⟨v, vs, f 0, rfl, r, p 0, repVsP_of (f := fun j => f (j + 1)) (by simpa using l) (fun j o e => by
      obtain ⟨w, hw, r⟩ := h (j + 1) o (by simpa using e)
      exact ⟨w, by simpa using hw, r⟩) fun j => p (j + 1)⟩
theorem RepVsP.one {g : Gl} {F H : Hp} {P : Addr → Prop} {os : List O} {x : V} (h : RepVsP g F H P os [x]) : ∃ o as, os = [o] ∧ RepO g F H o x as ∧ ∀ a ∈ as, P a := by
  cases os with
  | nil => exact absurd h (by unfold RepVsP; simp)
  | cons o os =>
    unfold RepVsP at h
    obtain ⟨v, r, as, e, h1, h2, h3⟩ := h
    obtain ⟨rfl, rfl⟩ := List.cons.inj e
    cases os with
    | nil => exact ⟨o, as, rfl, h1, h2⟩
    | cons o2 os =>
      unfold RepVsP at h3
      obtain ⟨_, _, _, e2, _⟩ := h3
      cases e2
theorem RepVsP.two {g : Gl} {F H : Hp} {P : Addr → Prop} {os : List O} {x y : V} (h : RepVsP g F H P os [x, y]) : ∃ o p as bs, os = [o, p] ∧ RepO g F H o x as ∧ (∀ a ∈ as, P a) ∧ RepO g F H p y bs ∧ ∀ a ∈ bs, P a := by
  cases os with
  | nil => exact absurd h (by unfold RepVsP; simp)
  | cons o os =>
    unfold RepVsP at h
    obtain ⟨v, r, as, e, h1, h2, h3⟩ := h
    obtain ⟨rfl, rfl⟩ := List.cons.inj e
    obtain ⟨p, bs, rfl, h4, h5⟩ := RepVsP.one h3
    exact ⟨o, p, as, bs, rfl, h1, h2, h4, h5⟩
theorem rngD_length : ∀ (n : Nat) (lo : Int), (rngD lo n).length = n
  | 0, _ => rfl
  | n + 1, lo => by unfold rngD; rw [List.length_cons, rngD_length n]
theorem rngD_get : ∀ (n : Nat) (lo : Int) (i : Nat), i < n → (rngD lo n)[i]? = some (.int (lo + i))
  | 0, _, _, h => absurd h (Nat.not_lt_zero _)
  | n + 1, lo, 0, h => by unfold rngD; simp
  | n + 1, lo, i + 1, h => by
    unfold rngD
    rw [List.getElem?_cons_succ, rngD_get n (lo + 1) i (by omega)]
    congr 2
    omega
theorem walk_rngD {g : Gl} {F : Hp} {lo : Int} {n : Nat} : Walk (Itr lo n) (rngD lo n).length (fun _ => True) (Yd g F (rngD lo n)) := by
  rw [rngD_length]
  refine walk_range.mono (fun _ h => h) fun i H x H' hi _ y => ?_
  obtain ⟨e1, e2⟩ := y
  exact ⟨_, rngD_get n lo i hi, .inl ⟨e1, by rw [e2]; exact repD_int⟩⟩
theorem pi_seq {tg l : Expr} : PI X tg l (fun σ H R => WPE X l σ H fun x H1 => ∃ a, x = .ref a ∧ (((∃ xs, SqL X.K H1 a xs) ∧ R (Itl X.K a) H1) ∨ ((∃ xs, SqT X.K H1 a xs) ∧ R (Itt X.K a) H1))) := by
  refine ⟨fun pins s σ H R I h => ?_⟩
  refine thn (h pins s I) fun v s1 ⟨x, H1, I1, r1, a, e, q1⟩ => ?_
  subst e
  cases r1
  rcases q1 with ⟨⟨xs, hq⟩, q⟩ | ⟨⟨xs, hq⟩, q⟩
  · obtain ⟨its, rv, p, hz⟩ := I1.list hq
    refine wpAny_pyIter_list p.isList ?_
    refine ⟨s1.heap.objs.size, [s1.heap.objs.size], _, _, H1, rfl, I1.kept (t' := s1.toks) fun b o e => Heap.get?_push_of_some _ e, turn_list a _, ⟨_, Heap.get?_push_size _ rfl, rfl, rfl⟩, fun b hb => ?_, q⟩
    have e : b = s1.heap.objs.size := by simpa using hb
    subst e
    exact I1.fpOk (Nat.le_refl _) (I1.hok.fresh (Nat.le_refl _))
  · obtain ⟨its, rv, p, hz⟩ := I1.tuple hq
    refine wpAny_pyIter_tuple (show s1.heap.IsTuple a its.toArray from p) ?_
    refine ⟨s1.heap.objs.size, [s1.heap.objs.size], _, _, H1, rfl, I1.kept (t' := s1.toks) fun b o e => Heap.get?_push_of_some _ e, turn_tuple a _, ⟨_, Heap.get?_push_size _ rfl, rfl, rfl⟩, fun b hb => ?_, q⟩
    have e : b = s1.heap.objs.size := by simpa using hb
    subst e
    exact I1.fpOk (Nat.le_refl _) (I1.hok.fresh (Nat.le_refl _))
theorem PI.imp {tg l : Expr} {w1 w2 : TI} (h : PI X tg l w1) (k : ∀ σ H R, w2 σ H R → w1 σ H R) : PI X tg l w2 := ⟨fun pins s σ H R I q => h.run pins s σ H R I (k σ H R q)⟩
/-- the items of a list or tuple, one after another -/
theorem items_walk {F H : Hp} {P : Addr → Prop} {o : O} {v : V} {as : List Addr} {ds : List D} {R : It → Hp → Prop} (s : Sub F H) (r : RepO (gl X) F H o v as) (hp : ∀ a ∈ as, P a) (e : o.items = some ds)
    (q : ∀ (J : It) (G : Hp → Prop), Walk J ds.length G (Yd (gl X) F ds) → (∀ F' H', Sub F F' → Sub F' H' → (∀ a u, P a → H a = some u → H' a = some u) → G H') → R J H) :
    ∃ a, v = .ref a ∧ (((∃ xs, SqL X.K H a xs) ∧ R (Itl X.K a) H) ∨ ((∃ xs, SqT X.K H a xs) ∧ R (Itt X.K a) H)) := by
  have yd : ∀ {vs : List V}, RepDs (gl X) F ds vs → ∀ i H x H', i < ds.length → YAt vs i H x H' → Yd (gl X) F ds i H x H' := fun {vs} rd i H x H' hi y => by
    obtain ⟨e1, e2⟩ := y
    obtain ⟨w, hw, rw'⟩ := rd.get (List.getElem?_eq_getElem hi)
    rw [e2] at hw
    cases hw
    exact ⟨_, List.getElem?_eq_getElem hi, .inl ⟨e1, rw'⟩⟩
  cases o with
  | p d =>
    have rd := repO_p r
    cases d with
    | lst ds' =>
      cases e
      unfold RepD at rd
      obtain ⟨a, vs, rfl, h1, h2⟩ := rd
      refine ⟨a, rfl, .inl ⟨⟨vs, s.sqL h1⟩, q _ (fun H => SqL X.K H a vs) ?_ fun F' H' m sb _ => (m.trans sb).sqL h1⟩⟩
      rw [h2.length]
      exact walk_list.mono (fun _ h => h) fun i H x H' hi _ y => yd h2 i H x H' (by rw [h2.length]; exact hi) y
    | tup ds' =>
      cases e
      unfold RepD at rd
      obtain ⟨a, vs, rfl, h1, h2⟩ := rd
      refine ⟨a, rfl, .inr ⟨⟨vs, s.sqT h1⟩, q _ (fun H => SqT X.K H a vs) ?_ fun F' H' m sb _ => (m.trans sb).sqT h1⟩⟩
      rw [h2.length]
      exact walk_tup.mono (fun _ h => h) fun i H x H' hi _ y => yd h2 i H x H' (by rw [h2.length]; exact hi) y
    | _ => cases e
  | lst ds' =>
    cases e
    unfold RepO at r
    obtain ⟨a, vs, rfl, rfl, _, h1, h2⟩ := r
    refine ⟨a, rfl, .inl ⟨⟨vs, .inl (.inl h1)⟩, q _ (fun H => SqL X.K H a vs) ?_ fun F' H' m sb k => .inl (.inl (k a _ (hp a List.mem_cons_self) h1))⟩⟩
    rw [h2.length]
    exact walk_list.mono (fun _ h => h) fun i H x H' hi _ y => yd h2 i H x H' (by rw [h2.length]; exact hi) y
  | _ => cases e
theorem pi_ok (B : XOK X) {k : ItK} {tg it : Expr} {xs : List Expr} (hk : ItKOk (gx X) k) (h : itOpnds k X.env.scope tg it = some xs) : PI X tg it (fun σ H R => WPEs X xs σ H (WantI X k R)) := by
  unfold itOpnds at h
  split at h
  · split at h
    · split at h
      · rename_i q
        simp only [Bool.and_eq_true, decide_eq_true_eq] at q
        obtain ⟨rfl, q2, q3⟩ := q
        cases h
        refine PI.imp (pi_range1 (gl_of q2) (B.bi _ (by decide +kernel)) (pa_wp1 q3) (starEach_cons q3)) fun σ H R w => WPE.mono w fun v H1 w1 => ?_
        obtain ⟨F, os, ds, P, s, rv, e, k⟩ := w1
        obtain ⟨o, as, rfl, r, _⟩ := rv.one
        have e' : itR1 [o] = some ds := e
        clear e
        unfold itR1 at e'
        split at e'
        · rename_i n e2
          cases e2
          split at e'
          · rename_i hb
            cases e'
            exact ⟨n, by rw [(repO_p r).int'], hb.2, hb.1, k _ _ walk_rngD fun _ _ _ _ _ => trivial⟩
          · cases e'
        · cases e'
      · cases h
    · cases h
  · split at h
    · split at h
      · rename_i q
        simp only [Bool.and_eq_true, decide_eq_true_eq] at q
        obtain ⟨rfl, q2, q3, q4⟩ := q
        cases h
        refine PI.imp (pi_range2 (gl_of q2) (B.bi _ (by decide +kernel)) (pa_wp2 q3 q4) (by rw [starEach_cons q3, starEach_cons q4]; rfl) (starEach_cons q4)) fun σ H R w => WPE.mono w fun v H1 w1 => WPE.mono w1 fun v2 H2 w2 => ?_
        obtain ⟨F, os, ds, P, s, rv, e, k⟩ := w2
        obtain ⟨o, p, as, bs, rfl, r, _, r2, _⟩ := rv.two
        have e' : itR2 [o, p] = some ds := e
        clear e
        unfold itR2 at e'
        split at e'
        · rename_i a b e2
          cases e2
          split at e'
          · rename_i hb
            cases e'
            exact ⟨a, b, by rw [(repO_p r).int', (repO_p r2).int'], ⟨hb.1, hb.2.1, hb.2.2.1, hb.2.2.2⟩, k _ _ walk_rngD fun _ _ _ _ _ => trivial⟩
          · cases e'
        · cases e'
      · cases h
    · cases h
  · split at h
    · cases h
      refine PI.imp pi_seq fun σ H R w => WPE.mono w fun v H1 w1 => ?_
      obtain ⟨F, os, ds, P, s, rv, e, k⟩ := w1
      obtain ⟨o, as, rfl, r, hp⟩ := rv.one
      have e : o.items = some ds := e
      exact items_walk s r hp e k
    · cases h
  · split at h
    · exact hk.run rfl B h
    · cases h
  · cases h
end
end DV
namespace DV
open PySem PySem.Spec PyProof.Rows L2
section
variable {X : Cx} {W : WX}
def gNames : List Nat → TGs
  | [] => gNil
  | i :: is => gCons (gName i) (gNames is)
def gT (K : PySem.W.Frag) : Tg → TG
  | .one i => gName i
  | .tup is => gTup K is.length (gNames is)
theorem tgOne_some {N : List Str} {ok : Str → Bool} {i : Nat} {e : Expr} {l : List (Str × Nat)} (h : tgOne N ok i e = some l) : ∃ x pos, e = .Name x pos ∧ N[i]? = some x ∧ ok x = true ∧ l = [(x, i)] := by
  unfold tgOne at h
  split at h
  · rename_i x pos
    split at h
    · rename_i q
      simp only [Bool.and_eq_true, decide_eq_true_eq] at q
      cases h
      exact ⟨x, pos, rfl, q.1, q.2, rfl⟩
    · cases h
  · cases h
/-- a name that may be stored -/
def OkT (X : Cx) (ok : Str → Bool) : Prop := ∀ x, ok x = true → Loc X.env.scope x ∧ (X.fn x = true ∨ X.env.scope.names.lookup x = some .local)
theorem tgMany_ok (B : XOK X) {ok : Str → Bool} (hok : OkT X ok) : ∀ {is : List Nat} {es : List Expr} {l : List (Str × Nat)}, tgMany X.N ok is es = some l → PGs X es (gNames is) ∧ (assignEach es X.env).length = is.length ∧ (assignEach es X.env).findIdx? (·.1) = none
  | [], [], l, h => by
    cases h
    exact ⟨pgs_nil, rfl, rfl⟩
  | [], _ :: _, l, h => by cases h
  | _ :: _, [], l, h => by cases h
  | i :: is, e :: es, l, h => by
    unfold tgMany at h
    split at h
    · rename_i a b e1 e2
      cases h
      obtain ⟨x, pos, rfl, h1, h2, rfl⟩ := tgOne_some e1
      obtain ⟨k1, k2, k3⟩ := tgMany_ok B hok e2
      have ex : assignEach (.Name x pos :: es) X.env = (false, assign (.Name x pos) X.env) :: assignEach es X.env := rfl
      obtain ⟨h3, h4⟩ := hok x h2
      refine ⟨pgs_cons (pg_name B.nd h1 h3 h4) k1 rfl, by rw [ex, List.length_cons, List.length_cons, k2], ?_⟩
      rw [ex, List.findIdx?_cons]
      rw [k3]
      rfl
    · cases h
theorem tgMany_slots {N : List Str} {ok : Str → Bool} : ∀ {is : List Nat} {es : List Expr} {l : List (Str × Nat)}, tgMany N ok is es = some l → l.map (·.2) = is
  | [], [], l, h => by
    cases h
    rfl
  | [], _ :: _, l, h => by cases h
  | _ :: _, [], l, h => by cases h
  | i :: is, e :: es, l, h => by
    unfold tgMany at h
    split at h
    · rename_i a b e1 e2
      cases h
      obtain ⟨x, pos, rfl, h1, h2, rfl⟩ := tgOne_some e1
      rw [List.map_append, tgMany_slots e2]
      rfl
    · cases h
theorem tg_slots {N : List Str} {ok : Str → Bool} {g : Tg} {e : Expr} {l : List (Str × Nat)} (h : tgNames N ok g e = some l) : l.map (·.2) = g.slots := by
  cases g with
  | one i =>
    obtain ⟨x, pos, rfl, h1, h2, rfl⟩ := tgOne_some h
    rfl
  | tup is =>
    cases e with
    | Tuple es k pos => exact tgMany_slots (show tgMany N ok is es = some l from h)
    | _ => cases h
theorem tg_ok (B : XOK X) (hcl : X.calm = true) {ok : Str → Bool} (hok : OkT X ok) {g : Tg} {e : Expr} {l : List (Str × Nat)} (h : tgNames X.N ok g e = some l) : PG X e (gT X.K g) := by
  cases g with
  | one i =>
    obtain ⟨x, pos, rfl, h1, h2, rfl⟩ := tgOne_some h
    obtain ⟨h3, h4⟩ := hok x h2
    exact pg_name B.nd h1 h3 h4
  | tup is =>
    cases e with
    | Tuple es k pos =>
      obtain ⟨k1, k2, k3⟩ := tgMany_ok B hok (show tgMany X.N ok is es = some l from h)
      exact pg_tup hcl k1 k2 k3
    | _ => cases h
/-- behind a target's store -/
structure Set' (g : Gl) (F H : Hp) (σ : St) (ρ : Ev) (fp : Nat → List Addr) (is : List Nat) (σ2 : St) (ρ2 : Ev) : Prop where
  ok : ∃ fp2, SOK g F H σ2 ρ2 fp2 ∧ ∀ a, Own fp2 a → Own fp a
  st : ∀ i, i ∉ is → σ2[i]? = σ[i]? ∧ ρ2[i]? = ρ[i]?
  len : ρ2.length = ρ.length
theorem set_one {g : Gl} {F H : Hp} {σ : St} {ρ : Ev} {fp : Nat → List Addr} (S : SOK g F H σ ρ fp) {i : Nat} {d : D} {x : V} (hi : i < ρ.length) (r : RepD g F d x) : Set' g F H σ ρ fp [i] (σ.set i (some x)) (ρ.set i (some (.p d))) := by
  refine ⟨⟨_, S.store hi (v := x) (fr := []) (by unfold RepO; exact ⟨r, rfl⟩) List.nodup_nil (by simp), fun a ⟨j, hj⟩ => ?_⟩, fun j hj => ?_, by rw [List.length_set]⟩
  · dsimp only at hj
    by_cases e : j = i
    · rw [if_pos e] at hj; exact absurd hj (by simp)
    · rw [if_neg e] at hj; exact ⟨j, hj⟩
  · have hne : i ≠ j := fun e => hj (by rw [e]; exact List.mem_cons_self)
    exact ⟨List.getElem?_set_ne hne, List.getElem?_set_ne hne⟩
theorem set_many {g : Gl} {F H : Hp} : ∀ {is : List Nat} {ds : List D} {xs : List V} {σ : St} {ρ ρ2 : Ev} {fp : Nat → List Addr} {Q : St → Hp → Prop}, SOK g F H σ ρ fp → setAll is ds ρ = some ρ2 → RepDs g F ds xs → (∀ σ2, Set' g F H σ ρ fp is σ2 ρ2 → Q σ2 H) → xs.length = is.length ∧ gNames is xs σ H Q
  | [], [], xs, σ, ρ, ρ2, fp, Q, S, e, r, q => by
    cases e
    unfold RepDs at r
    subst r
    exact ⟨rfl, rfl, q σ ⟨⟨fp, S, fun _ h => h⟩, fun _ _ => ⟨rfl, rfl⟩, rfl⟩⟩
  | [], _ :: _, xs, σ, ρ, ρ2, fp, Q, S, e, r, q => by cases e
  | _ :: _, [], xs, σ, ρ, ρ2, fp, Q, S, e, r, q => by cases e
  | i :: is, d :: ds, xs, σ, ρ, ρ2, fp, Q, S, e, r, q => by
    unfold setAll at e
    split at e
    · rename_i hi
      unfold RepDs at r
      obtain ⟨v, w, rfl, r1, r2⟩ := r
      obtain ⟨⟨fp1, S1, o1⟩, k1, l1⟩ := set_one S hi r1
      obtain ⟨h1, h2⟩ := set_many (Q := Q) S1 e r2 fun σ2 Z => q σ2 ⟨by
        obtain ⟨fp2, S2, o2⟩ := Z.ok
        exact ⟨fp2, S2, fun a h => o1 a (o2 a h)⟩, fun j hj => by
        have a1 := Z.st j fun z => hj (List.mem_cons_of_mem _ z)
        have a2 := k1 j fun z => hj (by rw [List.mem_singleton.mp z]; exact List.mem_cons_self)
        exact ⟨a1.1.trans a2.1, a1.2.trans a2.2⟩, Z.len.trans l1⟩
      exact ⟨by rw [List.length_cons, List.length_cons, h1], v, w, rfl, h2⟩
    · cases e
theorem set_tg {K : PySem.W.Frag} {mg : Str → Option Value} {wl : World} {F H : Hp} {σ : St} {ρ ρ2 : Ev} {fp : Nat → List Addr} {g : Tg} {d : D} {x : V} {Q : St → Hp → Prop} (S : SOK ⟨K, mg, wl⟩ F H σ ρ fp) (e : g.set d ρ = some ρ2) (r : RepD ⟨K, mg, wl⟩ F d x) (q : ∀ σ2, Set' ⟨K, mg, wl⟩ F H σ ρ fp g.slots σ2 ρ2 → Q σ2 H) : gT K g x σ H Q := by
  cases g with
  | one i =>
    unfold Tg.set at e
    dsimp only at e
    split at e
    · cases e
      exact q _ (set_one S ‹_› r)
    · cases e
  | tup is =>
    cases d with
    | tup ds =>
      obtain ⟨a, vs, rfl, h1, h2⟩ := repD_tup r
      have e : setAll is ds ρ = some ρ2 := e
      obtain ⟨l, h⟩ := set_many (Q := Q) S e h2 q
      exact ⟨a, vs, rfl, S.sub.sqT h1, l, h⟩
    | _ => cases e
/-- the next item, as data -/
theorem yd_step {g : Gl} {F0 F H H' : Hp} {σ : St} {ρ : Ev} {fp : Nat → List Addr} {ds : List D} {i : Nat} {x : V} (S : SOK g F H σ ρ fp) (m : Sub F0 F) (y : Yd g F0 ds i H x H') :
    ∃ d F', ds[i]? = some d ∧ Step F H (fun _ => False) F' H' ∧ SOK g F' H' σ ρ fp ∧ RepD g F' d x := by
  obtain ⟨d, e, y⟩ := y
  rcases y with ⟨rfl, r⟩ | ⟨T, vs, es, rfl, n, rfl, rfl, r⟩
  · exact ⟨d, F, e, Step.refl S.sub, S, r.mono m⟩
  · have s := step_new (own := fun _ => False) (u := .tup vs) S.sub n
    refine ⟨_, _, e, s, S.stay s fun _ _ z => z, ?_⟩
    unfold RepD
    exact ⟨T, vs, rfl, .inl (.inl upd_same), (r.mono m).mono s.mono⟩
theorem wipe_get {σ : St} {i : Nat} : ∀ {vs : List Nat}, i ∉ vs → (wipe σ vs)[i]? = σ[i]?
  | [], _ => rfl
  | v :: vs, h => by
    unfold wipe
    rw [List.getElem?_set_ne (fun e => h (by rw [e]; exact List.mem_cons_self))]
    exact wipe_get fun z => h (List.mem_cons_of_mem _ z)
theorem hideAll_get : ∀ (is : List Nat) {ρ : Ev} {i : Nat} {o : O}, (hideAll ρ is)[i]? = some (some o) → i ∉ is ∧ ρ[i]? = some (some o)
  | [], ρ, i, o, h => ⟨by simp, h⟩
  | k :: is, ρ, i, o, h => by
    obtain ⟨h1, h2⟩ := hideAll_get is h
    by_cases e : i = k
    · subst e
      by_cases hl : i < ρ.length
      · rw [List.getElem?_set_self hl] at h2; cases h2
      · rw [List.getElem?_eq_none (by rw [List.length_set]; omega)] at h2; cases h2
    · rw [List.getElem?_set_ne (Ne.symm e)] at h2
      exact ⟨by simp [e, h1], h2⟩
theorem SOK.resl {g : Gl} {F H : Hp} {σ σ' : St} {ρ : Ev} {fp : Nat → List Addr} (S : SOK g F H σ ρ fp) (l : σ'.length = σ.length) (h : ∀ (i : Nat) (o : O), ρ[i]? = some (some o) → σ'[i]? = σ[i]?) : SOK g F H σ' ρ fp :=
  ⟨S.sub, by rw [S.len, l], fun i o e => by rw [h i o e]; exact S.at_ i o e, S.nd, S.dj, S.emp⟩
theorem wipe_keep {σ σ2 : St} {vs : List Nat} (l : σ2.length = σ.length) (h : ∀ i, i ∉ vs → σ2[i]? = σ[i]?) : wipe σ2 vs = wipe σ vs := by
  apply List.ext_getElem?
  intro i
  by_cases hi : i ∈ vs
  · have key : ∀ (τ : St), τ.length = σ.length → ∀ us : List Nat, i ∈ us → (wipe τ us)[i]? = if i < σ.length then some none else none := by
      intro τ hτ us
      induction us with
      | nil => intro z; simp at z
      | cons u us ih =>
        intro z
        unfold wipe
        by_cases e : u = i
        · subst e
          by_cases hl : u < σ.length
          · rw [List.getElem?_set_self (by rw [wipe_length, hτ]; exact hl), if_pos hl]
          · rw [if_neg hl, List.getElem?_eq_none (by rw [List.length_set, wipe_length, hτ]; omega)]
        · rw [List.getElem?_set_ne e]
          exact ih ((List.mem_cons.mp z).resolve_left fun q => e q.symm)
    rw [key σ2 l vs hi, key σ rfl vs hi]
  · rw [wipe_get hi, wipe_get hi, h i hi]
def WPTs (X : Cx) (ifs : List Expr) (σ : St) (H : Hp) (Q : Bool → Hp → Prop) : Prop := ∀ pins s, Inv X pins σ H s →
    wpAny (model X.prog X.w) X.A (forIn ifs true fun c r => if r = true then do let ok ← isTrue c X.env (eval c X.env); pure (ForInStep.yield ok) else pure (ForInStep.yield r)) (TP X pins σ Q) X.xe s
def SoundTs (X : Cx) (ifs : List Expr) (ev : Ev → Res Bool) : Prop := ∀ σ ρ F H fp b ρ' Q, SOK (gl X) F H σ ρ fp → ev ρ = some (.ok b, ρ') → TPost (gl X) F H σ fp ρ' b Q → WPTs X ifs σ H Q
theorem soundTs_nil : SoundTs X [] (evTs []) := fun σ ρ F H fp b ρ' Q S e q => by
  simp only [evTs] at e
  cases e
  exact fun pins s I => pts_nil.run pins s σ H Q I (q F H fp (Step.refl S.sub) S fun a h => .inl h)
theorem soundTs_one {c : E} {x : Expr} (h : SoundT X W x (evE c)) : SoundTs X [x] (evTs [c]) := fun σ ρ F H fp b ρ' Q S e q => by
  simp only [evTs] at e
  split at e
  · rename_i ρ1 e1
    cases e
    exact fun pins s I => (pts_one pt_wp).run pins s σ H Q I (h σ ρ F H fp _ ρ' Q S e1 q)
  · rename_i ρ1 e1
    cases e
    exact fun pins s I => (pts_one pt_wp).run pins s σ H Q I (h σ ρ F H fp _ ρ' Q S e1 q)
  · cases e
theorem setIt_of {it : Expr} {env : Env} (h : notSet it = true) : ∀ x, foldedSetIterable it env x = pure x := by
  cases it <;> first | (intro _; rfl) | cases h
theorem itOpnds_notSet {k : ItK} {sc : Scope} {tg it : Expr} {xs : List Expr} (h : itOpnds k sc tg it = some xs) : notSet it = true := by
  unfold itOpnds at h
  split at h
  · split at h
    · rfl
    · cases h
  · split at h
    · rfl
    · cases h
  · split at h
    · assumption
    · cases h
  · split at h
    · assumption
    · cases h
  · cases h
theorem own_arg {fp : Nat → List Addr} {ρ : Ev} {qs : List Opd} {g : Gl} {F H : Hp} {σ : St} (S : SOK g F H σ ρ fp) {a : Addr} {L : List Nat} (hL : ∀ i ∈ lockd ρ qs, i ∈ L) (h : Own (fpArg fp (ownIx ρ qs)) a) : Own fp a ∧ ¬ Own (fpHide fp L) a := by
  obtain ⟨j, hj⟩ := h
  obtain ⟨i, e1, hi⟩ := fpArg_mem hj
  exact ⟨⟨i, hi⟩, S.hideAll_no (hL i (somes_mem e1)) hi⟩
end
end DV
namespace DV
open PySem PySem.Spec PyProof.Rows L2
section
variable {X : Cx} {W : WX}
/-- a block of a comprehension -/
abbrev Blk (X : Cx) (s : Shared) (H : Hp) (scope : Scope) (C : Addr) (cl : List (Str × Addr)) (fp : List Addr) : Cx := X.blk s H scope (compEnvC scope cl C X.env) fp
theorem XOK.blk (B : XOK X) (s : Shared) (H : Hp) (scope : Scope) (C : Addr) (cl : List (Str × Addr)) (fp : List Addr) : XOK (Blk X s H scope C cl fp) := ⟨B.nd, B.un, B.bi⟩
theorem okT_blk (s : Shared) (H : Hp) (scope : Scope) (C : Addr) (cl : List (Str × Addr)) (fp : List Addr) : OkT (Blk X s H scope C cl fp) (lclB scope) := fun x h => by
  have h1 : scope.names.lookup x = some .local := by
    unfold lclB at h
    split at h
    · assumption
    · cases h
  have h2 : (relS scope X.env.scope).names.lookup x = some .local := lookup_relS_keep (by decide) h1
  exact ⟨.inl h2, .inr h2⟩
theorem takes_blk (s : Shared) (H : Hp) (scope : Scope) (C : Addr) (cl : List (Str × Addr)) (fp : List Addr) : Takes (Blk X s H scope C cl fp) (fun _ _ _ _ => False) := fun u s' ⟨_, _, _, _, _, _, _, _, _, _, _, _, _, _, _, _, w⟩ => w
abbrev WF : WX := fun _ _ _ _ => False
/-- where a comprehension stands ahead of its i-th turn -/
structure LcAt (X : Cx) (F1 H1 : Hp) (own : Addr → Prop) (σw : St) (ρ2 : Ev) (q0 : Addr) (run : List D → Ev → Option (List D × Ev)) (ds Y : List D) (n : Nat) (i : Nat) (H : Hp) : Prop where
  ex : ∃ (F' : Hp) (ρi : Ev) (fpi : Nat → List Addr) (aD : List D) (aV : List V) (ys : List D), Step F1 H1 own F' H ∧ SOK (gl X) F' H σw ρi fpi ∧ (∀ a, Own fpi a → own a ∨ H1 a = none) ∧ ¬ Own fpi q0 ∧ F' q0 = none ∧ H q0 = some (.lst aV) ∧
    RepDs (gl X) F' aD aV ∧ aD.length ≤ i ∧ run (ds.drop i) ρi = some (ys, ρ2) ∧ aD ++ ys = Y ∧ ρi.length = n
theorem stepF_none {F H F' H' : Hp} {own : Addr → Prop} {D : Addr} {u : HO} (s : Step F H own F' H') (fD : F D = none) (hD : H D = some u) (nD : ¬ own D) : F' D = none := by
  rcases none_or (H := F') D with z | ⟨w, z⟩
  · exact z
  · rcases s.newF D w z with q | q | q
    · rw [fD] at q; cases q
    · rw [hD] at q; cases q
    · exact absurd q nD
/-- the new list at D written -/
theorem write_new {g : Gl} {F H : Hp} {σ : St} {ρ : Ev} {fp : Nat → List Addr} {D : Addr} {u : HO} (S : SOK g F H σ ρ fp) (fD : F D = none) (nD : ¬ Own fp D) : SOK g F (upd H D u) σ ρ fp :=
  ⟨fun a o e => by
    rw [upd_ne (fun z => by rw [z, fD] at e; cases e)]
    exact S.sub a o e, S.len, fun i o e => by
    obtain ⟨v, hv, r⟩ := S.at_ i o e
    refine ⟨v, hv, r.mono (Sub.refl F) fun a ha => ⟨(r.own a ha).1, fun w hw => ?_⟩⟩
    rw [upd_ne (fun z => nD (by rw [← z]; exact ⟨i, ha⟩))]
    exact hw, S.nd, S.dj, S.emp⟩
theorem backAll_get {ρ0 : Ev} : ∀ (is : List Nat) {ρ : Ev} {i : Nat}, (backAll ρ0 ρ is)[i]? = if i ∈ is ∧ i < ρ.length then some (ρ0.getD i none) else ρ[i]?
  | [], ρ, i => by
    rw [if_neg (by simp)]
    rfl
  | k :: is, ρ, i => by
    show (backAll ρ0 (ρ.set k (ρ0.getD k none)) is)[i]? = _
    rw [backAll_get is, List.length_set]
    by_cases h : i ∈ is ∧ i < ρ.length
    · rw [if_pos h, if_pos ⟨List.mem_cons_of_mem _ h.1, h.2⟩]
    · rw [if_neg h]
      by_cases e : k = i
      · subst e
        by_cases hl : k < ρ.length
        · rw [if_pos ⟨List.mem_cons_self, hl⟩, List.getElem?_set_self hl]
        · rw [if_neg (fun z => hl z.2), List.getElem?_eq_none (by rw [List.length_set]; omega), List.getElem?_eq_none (by omega)]
      · rw [List.getElem?_set_ne e, if_neg]
        exact fun z => h ⟨(List.mem_cons.mp z.1).resolve_left fun q => e q.symm, z.2⟩
theorem hideAll_get' : ∀ (is : List Nat) {ρ : Ev} {i : Nat}, i ∉ is → (hideAll ρ is)[i]? = ρ[i]?
  | [], ρ, i, _ => rfl
  | k :: is, ρ, i, h => by
    show (hideAll (ρ.set k none) is)[i]? = _
    rw [hideAll_get' is fun z => h (List.mem_cons_of_mem _ z), List.getElem?_set_ne fun e => h (by rw [e]; exact List.mem_cons_self)]
theorem back_hide {is L : List Nat} {ρ0 ρa : Ev} (h : ∀ i ∈ L, i ∈ is) : backAll ρ0 (hideAll ρa L) is = backAll ρ0 ρa is := by
  apply List.ext_getElem?
  intro i
  rw [backAll_get, backAll_get, hideAll_length]
  by_cases q : i ∈ is ∧ i < ρa.length
  · rw [if_pos q, if_pos q]
  · rw [if_neg q, if_neg q]
    by_cases z : i ∈ L
    · have : ¬ i < ρa.length := fun w => q ⟨h i z, w⟩
      rw [List.getElem?_eq_none (by rw [hideAll_length]; omega), List.getElem?_eq_none (by omega)]
    · exact hideAll_get' L z
abbrev tcLc (X : Cx) (scope : Scope) (ifs : List Expr) : TT := fun σ H Q => ∀ s H0 C cl fp, WPTs (Blk X s H0 scope C cl fp) ifs σ H Q
abbrev teLc (X : Cx) (scope : Scope) (el : Expr) : TE := fun σ H Q => ∀ s H0 C cl fp, WPE (Blk X s H0 scope C cl fp) el σ H Q
theorem lc_reads {g : Tg} {k : ItK} {src cs : List E} {elt : E} {el tg it : Expr} {ifs : List Expr} {scope : Scope} {own : List (Str × Nat)} {xs : List Expr} (B : XOK X) (hown : tgNames X.N (lclB scope) g tg = some own) (hit : itOpnds k X.env.scope tg it = some xs) (hsrc : SoundOs X W xs (evOs src))
    (hblk : blkC X.N X.env.scope scope own = true) (hcs : ∀ s H C cl fp, SoundTs (Blk X s H scope C cl fp) ifs (evTs cs)) (hl : ifs.length ≤ 1) (helt : ∀ s H C cl fp, SoundE (Blk X s H scope C cl fp) WF el (evE elt)) {σ : St} {ρ : Ev} {F H : Hp} {fp : Nat → List Addr} {r : R O} {ρ' : Ev} {Q : VK} (S : SOK (gl X) F H σ ρ fp) (e : evE (.lc g k src cs elt) ρ = some (r, ρ')) (q : RPost (gl X) F H σ fp W Q ρ' r) :
    tLc (fun σ H R => WPEs X xs σ H (WantI X k R)) (gT X.K g) (tcLc X scope ifs) (teLc X scope el) (own.map (·.2)) σ H Q := by
  have hsl : own.map (·.2) = g.slots := tg_slots hown
  simp only [evE] at e
  split at e
  · rename_i qs ρ1 e1
    split at e
    · rename_i os e2
      split at e
      · rename_i ds e3
        split at e
        · rename_i nd
          obtain ⟨nd, hds⟩ := nd
          split at e
          · rename_i Y ρ2 e4
            cases e
            refine hsrc σ ρ F H fp _ ρ1 _ S e1 fun vs F1 H1 fp1 s1 S1 n1 rs => ?_
            obtain ⟨l1, l2, k1, k2⟩ := args_at S1 rs e2
            refine ⟨F1, os, ds, Own (fpArg fp1 (ownIx ρ1 qs)), S1.sub, repVsP_of l1 k1 (fun j a ha => ⟨j, ha⟩), e3, fun J G wk st D hD => ?_⟩
            rw [hsl]
            -- the slots put aside
            have Sh := S1.hideAll (lockd ρ1 qs ++ g.slots)
            have Shw : SOK (gl X) F1 H1 (wipe σ g.slots) (hideAll ρ1 (lockd ρ1 qs ++ g.slots)) (fpHide fp1 (lockd ρ1 qs ++ g.slots)) := Sh.resl (wipe_length _ _) fun i o h => wipe_get fun z => (hideAll_get _ h).1 (List.mem_append_right _ z)
            have s0 : Step F1 H1 (Own (fpHide fp1 (lockd ρ1 qs ++ g.slots))) F1 (upd H1 D (.lst [])) := step_newH S1.sub hD
            have hDo : ¬ Own (fpHide fp1 (lockd ρ1 qs ++ g.slots)) D := Sh.not_own hD
            refine lc_it wk (g := gT X.K g) (tt := fun σ H Q => ∀ s H0 C cl fp, WPTs (Blk X s H0 scope C cl fp) ifs σ H Q) (te := fun σ H Q => ∀ s H0 C cl fp, WPE (Blk X s H0 scope C cl fp) el σ H Q) (vs := g.slots) (σ := σ) (H1 := H1) (D := D) (Qd := fun H => Q (.ref D) H) (fun i H => LcAt X F1 H1 (Own (fpHide fp1 (lockd ρ1 qs ++ g.slots))) (wipe σ g.slots) ρ2 D (lcRun g (fun r => evTs cs r) (fun r => evE elt r)) ds Y ρ1.length i H) ?_ ?_ ?_ ?_
            · -- the start
              exact ⟨F1, _, _, [], [], Y, s0, write_new Shw (sub_none S1.sub hD) hDo, fun a h => .inl h, hDo, sub_none S1.sub hD, upd_same, by unfold RepDs; rfl, Nat.le_refl _, e4, rfl, hideAll_length _ _⟩
            · -- what it goes through stands
              rintro i Hi hi ⟨F', ρi, fpi, aD, aV, ys, si, Si, _⟩
              exact st F' Hi si.mono si.sub fun a u ha hu => si.keep a u hu (own_arg S1 (fun i hi => List.mem_append_left _ hi) ha).2
            · -- a turn
              rintro i x Hi H2 hi ⟨F', ρi, fpi, aD, aV, ys, si, Si, ni, nDi, fD, hDi, rD, la, run, eY, ln⟩ y
              obtain ⟨d, F2, ed, s2, S2, rd⟩ := yd_step Si si.mono y
              have hD2 : H2 D = some (.lst aV) := s2.keep D _ hDi id
              have fD2 : F2 D = none := stepF_none s2 fD hDi id
              have ed' : ds.drop i = d :: ds.drop (i + 1) := by
                rw [List.drop_eq_getElem_cons (show i < ds.length from hi)]
                congr 1
                rw [List.getElem?_eq_getElem (show i < ds.length from hi)] at ed
                exact Option.some.inj ed
              rw [ed'] at run
              unfold lcRun at run
              split at run
              · cases run
              · rename_i ρa ea
                refine set_tg S2 ea rd fun σ2 Z => ?_
                obtain ⟨⟨fpa, Sa, oa⟩, za, la2⟩ := Z
                have lσ : σ2.length = (wipe σ g.slots).length := by rw [← Sa.len, ← S2.len, la2]
                have wk2 : wipe σ2 g.slots = wipe σ g.slots := by
                  refine wipe_keep (by rw [lσ, wipe_length]) fun i hi => ?_
                  rw [(za i hi).1, wipe_get hi]
                refine ⟨wk2, fun s H0 C cl fp => ?_⟩
                have sI2 : Step F1 H1 (Own (fpHide fp1 (lockd ρ1 qs ++ g.slots))) F2 H2 := si.trans s2 fun _ z => z.elim
                -- back to the turn's start
                have back : ∀ {F3 H3 : Hp} {ρ3 : Ev} {fp3 : Nat → List Addr}, SOK (gl X) F3 H3 σ2 ρ3 fp3 → SOK (gl X) F3 H3 (wipe σ g.slots) (hideAll ρ3 g.slots) (fpHide fp3 g.slots) := fun {F3 H3 ρ3 fp3} S3 => by
                  refine (S3.hideAll g.slots).resl (by rw [lσ]) fun i o h => ?_
                  have hi := (hideAll_get _ h).1
                  exact ((za i hi).1).symm
                have nDa : ¬ Own fpa D := fun z => nDi (oa D z)
                split at run
                · rename_i ρb eb
                  refine hcs s H0 C cl fp σ2 ρa F2 H2 fpa true ρb _ Sa eb fun F3 H3 fp3 s3 S3 n3 => ?_
                  have hD3 : H3 D = some (.lst aV) := s3.keep D _ hD2 nDa
                  have fD3 : F3 D = none := stepF_none s3 fD2 hD2 nDa
                  have nD3 : ¬ Own fp3 D := fun z => (n3 D z).elim nDa fun z => by rw [hD2] at z; cases z
                  have na : ∀ a, Own fpa a → Own (fpHide fp1 (lockd ρ1 qs ++ g.slots)) a ∨ H1 a = none := fun a h => ni a (oa a h)
                  have sI3 := sI2.trans s3 na
                  have nI3 : ∀ a, Own fp3 a → Own (fpHide fp1 (lockd ρ1 qs ++ g.slots)) a ∨ H1 a = none := own_trans sI2 na n3
                  split at run
                  · rename_i yv ρc ec
                    refine iteT fun s H0 C cl fp => ?_
                    refine helt s H0 C cl fp σ2 ρb F3 H3 fp3 _ ρc _ S3 ec fun v F4 H4 fp4 fr s4 S4 n4 rv nd4 nf4 => ?_
                    have hD4 : H4 D = some (.lst aV) := s4.keep D _ hD3 nD3
                    have fD4 : F4 D = none := stepF_none s4 fD3 hD3 nD3
                    have nD4 : ¬ Own fp4 D := fun z => (n4 D z).elim nD3 fun z => by rw [hD3] at z; cases z
                    split at run
                    · rename_i ys' ρ4 er
                      cases run
                      have l3 : aV.length < sizeLine := by
                        have h1 := rD.length
                        have h2 : i < ds.length := hi
                        omega
                      refine ⟨aV, hD4, l3, F4, _, _, aD ++ [yv], aV ++ [v], ys', ?_, write_new (back S4) fD4 (fun z => nD4 (own_hideAll _ z)), fun a h => own_trans sI3 nI3 n4 a (own_hideAll _ h), fun z => nD4 (own_hideAll _ z), fD4, upd_same, ?_, ?_, er, ?_, ?_⟩
                      · have t := sI3.trans s4 nI3
                        refine ⟨t.mono, fun a o e => ?_, fun a o e no => ?_, t.newF⟩
                        · rw [upd_ne (fun z => by rw [z, fD4] at e; cases e)]
                          exact t.sub a o e
                        · rw [upd_ne (fun z => by rw [z, hD] at e; cases e)]
                          exact t.keep a o e no
                      · refine RepDs.append (((rD.mono s2.mono).mono s3.mono).mono s4.mono) ?_
                        unfold RepDs RepDs
                        exact ⟨v, [], rfl, repO_p rv, rfl⟩
                      · rw [List.length_append]; simp; omega
                      · rw [List.append_assoc]; exact eY
                      · rw [hideAll_length]
                        have e1 := S4.len
                        have e2 := Sa.len
                        omega
                    · cases run
                  · cases run
                · rename_i ρb eb
                  refine hcs s H0 C cl fp σ2 ρa F2 H2 fpa false ρb _ Sa eb fun F3 H3 fp3 s3 S3 n3 => ?_
                  have hD3 : H3 D = some (.lst aV) := s3.keep D _ hD2 nDa
                  have fD3 : F3 D = none := stepF_none s3 fD2 hD2 nDa
                  have nD3 : ¬ Own fp3 D := fun z => (n3 D z).elim nDa fun z => by rw [hD2] at z; cases z
                  have na : ∀ a, Own fpa a → Own (fpHide fp1 (lockd ρ1 qs ++ g.slots)) a ∨ H1 a = none := fun a h => ni a (oa a h)
                  refine iteF ⟨F3, _, _, aD, aV, ys, sI2.trans s3 na, back S3, fun a h => own_trans sI2 na n3 a (own_hideAll _ h), fun z => nD3 (own_hideAll _ z), fD3, hD3, (rD.mono s2.mono).mono s3.mono, by omega, run, eY, ?_⟩
                  rw [hideAll_length]
                  have e1 := S3.len
                  have e2 := Sa.len
                  omega
                · cases run
            · -- the end
              rintro Hn ⟨F', ρi, fpi, aD, aV, ys, si, Si, ni, nDi, fD, hDi, rD, la, run, eY, ln⟩
              rw [List.drop_length] at run
              unfold lcRun at run
              cases run
              rw [List.append_nil] at eY
              subst eY
              -- the slots come back
              have Sσ : SOK (gl X) F' Hn σ (hideAll ρ2 g.slots) (fpHide fpi g.slots) := (Si.hideAll g.slots).resl (by rw [wipe_length]) fun i o h => (wipe_get (hideAll_get _ h).1).symm
              obtain ⟨fp', Sb, nb, lb⟩ := SOK.backAll (own := Own (fpHide fp1 (lockd ρ1 qs ++ g.slots))) S1 si (lockd ρ1 qs ++ g.slots) Sσ (by rw [hideAll_length, ln]) (fun _ _ => rfl) nd (fun i hi a ha => S1.hideAll_no hi ha) (fun i hi a ha z => by
                rcases ni a (own_hideAll _ z) with z | z
                · exact S1.hideAll_no hi ha z
                · obtain ⟨_, u, hu⟩ := S1.own ⟨i, ha⟩
                  rw [z] at hu; cases hu)
              · rw [back_hide (fun i hi => List.mem_append_right _ hi)] at Sb
                have t : Step F H (Own fp) F' Hn := s1.trans (own1 := Own fp1) ⟨si.mono, si.sub, fun a o e n => si.keep a o e fun z => n (own_hideAll _ z), fun a o e => (si.newF a o e).elim .inl fun z => z.elim (fun z => .inr (.inl z)) fun z => .inr (.inr (own_hideAll _ z))⟩ n1
                have nb' : ∀ a, Own fp' a → Own fp1 a ∨ H1 a = none := fun a h => by
                  rcases nb a h with z | ⟨i, hi, z⟩
                  · exact (ni a (own_hideAll _ z)).elim (fun z => .inl (own_hideAll _ z)) .inr
                  · exact .inl ⟨i, z⟩
                refine q (.ref D) F' Hn fp' [D] t Sb (own_trans s1 n1 nb') ?_ (by simp) fun a ha => ?_
                · unfold RepO
                  exact ⟨D, aV, rfl, rfl, fD, hDi, rD⟩
                · have ea : a = D := by simpa using ha
                  subst ea
                  refine ⟨fresh_of s1 hD, fun z => ?_⟩
                  rcases nb a z with z | ⟨i, hi, z⟩
                  · exact nDi (own_hideAll _ z)
                  · obtain ⟨_, u, hu⟩ := S1.own ⟨i, z⟩
                    rw [hD] at hu; cases hu
          · cases e
        · cases e
      · cases e
    · cases e
  · rename_i z ρ1 e1
    cases e
    exact hsrc σ ρ F H fp _ _ _ S e1 q
  · cases e
theorem sound_lc {g : Tg} {k : ItK} {src cs : List E} {elt : E} {el tg it : Expr} {ifs : List Expr} {scope : Scope} {own : List (Str × Nat)} {xs : List Expr} {pos : Pos} (B : XOK X) (hcl : X.calm = true) (hkk : ItKOk (gx X) k) (hown : tgNames X.N (lclB scope) g tg = some own) (hit : itOpnds k X.env.scope tg it = some xs) (hsrc : SoundOs X W xs (evOs src))
    (hblk : blkC X.N X.env.scope scope own = true) (hcs : ∀ s H C cl fp, SoundTs (Blk X s H scope C cl fp) ifs (evTs cs)) (hl : ifs.length ≤ 1) (helt : ∀ s H C cl fp, SoundE (Blk X s H scope C cl fp) WF el (evE elt)) : SoundE X W (.ListComp el [⟨tg, it, ifs, 0⟩] scope pos) (evE (.lc g k src cs elt)) := fun σ ρ F H fp r ρ' Q S e q => by
  refine wpe_of (pe_lc (te := teLc X scope el) (tt := tcLc X scope ifs) (g := gT X.K g) hcl B.nd (pi_ok B hkk hit) (blkOk_by hblk)
    (fun s H C cl fp => tg_ok (B.blk s H scope C cl fp) hcl (okT_blk s H scope C cl fp) hown) (fun s H C cl fp => ⟨fun pins s' σ H' Q I h => h s H C cl fp pins s' I⟩) (fun s H C cl fp => ⟨fun pins s' σ H' Q I h => h s H C cl fp pins s' I⟩) (setIt_of (itOpnds_notSet hit))) ?_
  exact lc_reads B hown hit hsrc hblk hcs hl helt S e q
/-- y = [..], the name a local of the same row -/
theorem wps_setLc {g : Tg} {k : ItK} {src cs : List E} {elt : E} {el tg it : Expr} {ifs : List Expr} {scope : Scope} {own : List (Str × Nat)} {xs : List Expr} {pos spos py : Pos} {i : Nat} {y : Str} (B : XOK X) (hcl : X.calm = true) (hkk : ItKOk (gx X) k) (hown : tgNames X.N (lclB scope) g tg = some own) (hit : itOpnds k X.env.scope tg it = some xs) (hsrc : SoundOs X W xs (evOs src))
    (hblk : blkC X.N X.env.scope scope own = true) (hcs : ∀ s H C cl fp, SoundTs (Blk X s H scope C cl fp) ifs (evTs cs)) (hl : ifs.length ≤ 1) (helt : ∀ s H C cl fp, SoundE (Blk X s H scope C cl fp) WF el (evE elt)) (hy : X.N[i]? = some y) (hyl : X.env.scope.names.lookup y = some .local) (hk : X.env.scope.kind = .function) (hli : (py.line == pos.line) = true) (ha : (scope.names.any fun (n, k) => n == y && (k == .local || k == .cell)) = false) {σ : St} {ρ : Ev} {F H : Hp} {fp : Nat → List Addr} {r : R O} {ρ' : Ev} {D : Ends} (S : SOK (gl X) F H σ ρ fp) (e : evE (.lc g k src cs elt) ρ = some (r, ρ')) (q : RPost (gl X) F H σ fp W (fun v H1 => D.nx (σ.set i (some v)) H1) ρ' r) : WPS X (.Assign [.Name y py] (.ListComp el [⟨tg, it, ifs, 0⟩] scope pos) spos) D σ H := by
  refine wps_of (ps_setLc (te := teLc X scope el) (tt := tcLc X scope ifs) (g := gT X.K g) hcl B.nd hy hyl (sw_true hk hyl hli ha) (pi_ok B hkk hit) (blkOk_by hblk)
    (fun s H C cl fp => tg_ok (B.blk s H scope C cl fp) hcl (okT_blk s H scope C cl fp) hown) (fun s H C cl fp => ⟨fun pins s' σ H' Q I h => h s H C cl fp pins s' I⟩) (fun s H C cl fp => ⟨fun pins s' σ H' Q I h => h s H C cl fp pins s' I⟩) (setIt_of (itOpnds_notSet hit))) ?_
  exact lc_reads B hown hit hsrc hblk hcs hl helt S e q
end
end DV
namespace DV
open PySem PySem.Spec PyProof.Rows L2
theorem isEmpty_nil {α : Type} {xs : List α} (h : xs.isEmpty = true) : xs = [] := List.isEmpty_iff.mp h
theorem evOs_var_eq {i : Nat} {es : List E} {ρ : Ev} {r : R (List Opd) × Ev} (h : evOs (.var i :: es) ρ = some r) : (∃ o, ρ[i]? = some (some o)) ∧ ((∃ qs, evOs es ρ = some (.ok qs, r.2) ∧ r.1 = .ok (.sl i :: qs)) ∨ ∃ z, evOs es ρ = some (.ex z, r.2) ∧ r.1 = .ex z) := by
  simp only [evOs] at h
  split at h
  · rename_i o e1
    refine ⟨⟨o, e1⟩, ?_⟩
    split at h
    · rename_i qs ρ2 e2
      cases h
      exact .inl ⟨qs, e2, rfl⟩
    · rename_i z ρ2 e2
      cases h
      exact .inr ⟨z, e2, rfl⟩
    · cases h
  · cases h
theorem evOs_eq {e : E} {es : List E} (hv : ∀ i, e ≠ .var i) {ρ : Ev} {r : R (List Opd) × Ev} (h : evOs (e :: es) ρ = some r) : (∃ o ρ1, evE e ρ = some (.ok o, ρ1) ∧ ((∃ qs, evOs es ρ1 = some (.ok qs, r.2) ∧ r.1 = .ok (.val o.frz :: qs)) ∨ ∃ z, evOs es ρ1 = some (.ex z, r.2) ∧ r.1 = .ex z)) ∨ ∃ z, evE e ρ = some (.ex z, r.2) ∧ r.1 = .ex z := by
  rw [evOs] at h
  · split at h
    · rename_i o ρ1 e1
      refine .inl ⟨o, ρ1, e1, ?_⟩
      split at h
      · rename_i qs ρ2 e2
        cases h
        exact .inl ⟨qs, e2, rfl⟩
      · rename_i z ρ2 e2
        cases h
        exact .inr ⟨z, e2, rfl⟩
      · cases h
    · rename_i z ρ1 e1
      cases h
      exact .inr ⟨z, e1, rfl⟩
    · cases h
  · exact hv
theorem soundOs_step {X : Cx} {W : WX} {e : E} {es : List E} {x : Expr} {xs : List Expr} (hc : chkE X.N e X.env.scope x = true) (h1 : SoundE X W x (evE e)) (h2 : SoundOs X W xs (evOs es)) : SoundOs X W (x :: xs) (evOs (e :: es)) := by
  by_cases hv : ∃ i, e = .var i
  · obtain ⟨i, rfl⟩ := hv
    have hn : nameB X.N X.env.scope i x = true := by simpa only [chkE] using hc
    exact soundOs_var (pe_name hn) h2 fun ρ r h => evOs_var_eq h
  · exact soundOs_cons h1 h2 fun ρ r h => evOs_eq (fun i z => hv ⟨i, z⟩) h
theorem chkEs_cons {N : List Str} {e : E} {es : List E} {sc : Scope} {xs : List Expr} (h : chkEs N (e :: es) sc xs = true) : ∃ x xr, xs = x :: xr ∧ chkE N e sc x = true ∧ chkEs N es sc xr = true := by
  rw [chkEs.eq_def] at h
  dsimp only at h
  split at h
  · simp only [Bool.and_eq_true] at h
    exact ⟨_, _, rfl, h.1, h.2⟩
  · cases h
theorem chkTs_cons {N : List Str} {e : E} {es : List E} {sc : Scope} {xs : List Expr} (h : chkTs N (e :: es) sc xs = true) : ∃ x xr, xs = x :: xr ∧ chkT N e sc x = true ∧ chkTs N es sc xr = true := by
  rw [chkTs.eq_def] at h
  dsimp only at h
  split at h
  · simp only [Bool.and_eq_true] at h
    exact ⟨_, _, rfl, h.1, h.2⟩
  · cases h
mutual
theorem soundE : ∀ (e : E) {X : Cx} {W : WX} {x : Expr}, XOK X → Takes X W → CallsE (gx X) e → chkE X.N e X.env.scope x = true → SoundE X W x (evE e)
  | .var i, X, W, x, B, tk, hc, h => sound_var (by simpa only [chkE] using h)
  | .mv i, X, W, x, B, tk, hc, h => sound_mv (by simpa only [chkE] using h)
  | .non, X, W, x, B, tk, hc, h => by
    simp only [chkE] at h
    split at h
    · exact sound_const pe_non (fun F => repD_non) fun ρ => rfl
    · cases h
  | .bl b, X, W, x, B, tk, hc, h => by
    simp only [chkE] at h
    split at h
    · have e := eq_of_beq h
      subst e
      exact sound_const pe_bl (fun F => repD_bl) fun ρ => rfl
    · cases h
  | .int i, X, W, x, B, tk, hc, h => by
    simp only [chkE] at h
    split at h
    · have e := of_decide_eq_true h
      subst e
      exact sound_const pe_int (fun F => repD_int) fun ρ => rfl
    · cases h
  | .str s, X, W, x, B, tk, hc, h => by
    simp only [chkE] at h
    split at h
    · have e := of_decide_eq_true h
      subst e
      exact sound_const pe_str (fun F => repD_str) fun ρ => rfl
    · cases h
  | .glob n d, X, W, x, B, tk, hc, h => by
    simp only [chkE] at h
    split at h
    · simp only [Bool.and_eq_true, decide_eq_true_eq] at h
      obtain ⟨rfl, h2⟩ := h
      simp only [CallsE] at hc
      obtain ⟨u, v, k1, k2, k3, k4⟩ := hc
      exact sound_const (pe_glob (gl_of h2) k1 k2 k4) k3 fun ρ => rfl
    · cases h
  | .prim p es, X, W, x, B, tk, hc, h => by
    simp only [chkE] at h
    split at h
    · rename_i xs e
      simp only [CallsE] at hc
      exact sound_prim B hc.1 e (soundOs es B tk hc.2 h)
    · cases h
  | .isi t es, X, W, x, B, tk, hc, h => by
    simp only [chkE] at h
    split at h
    · simp only [Bool.and_eq_true, decide_eq_true_eq] at h
      obtain ⟨rfl, rfl, h3, h4, h5, h6, h7⟩ := h
      exact sound_isi B h3 h4 h5 h6 (soundOs es B tk (by simpa only [CallsE] using hc) h7)
    · cases h
  | .tup es, X, W, x, B, tk, hc, h => by
    simp only [chkE] at h
    split at h
    · simp only [Bool.and_eq_true] at h
      exact sound_tup h.1 (soundEs es B tk (by simpa only [CallsE] using hc) h.2)
    · cases h
  | .lst es, X, W, x, B, tk, hc, h => by
    simp only [chkE] at h
    split at h
    · simp only [Bool.and_eq_true] at h
      exact sound_lst h.1 (soundEs es B tk (by simpa only [CallsE] using hc) h.2)
    · cases h
  | .ot es, X, W, x, B, tk, hc, h => by
    simp only [chkE] at h
    split at h
    · simp only [Bool.and_eq_true] at h
      exact sound_ot h.1 (soundEs es B tk (by simpa only [CallsE] using hc) h.2)
    · cases h
  | .ol es, X, W, x, B, tk, hc, h => by
    simp only [chkE] at h
    split at h
    · simp only [Bool.and_eq_true] at h
      exact sound_ol h.1 (soundEs es B tk (by simpa only [CallsE] using hc) h.2)
    · cases h
  | .plug p es, X, W, x, B, tk, hc, h => by
    simp only [chkE] at h
    simp only [CallsE] at hc
    split at h
    · rename_i xs e
      exact sound_plug B hc.1 e (soundOs es B tk hc.2 h)
    · cases h
  | .plugT p es, X, W, x, B, tk, hc, h => by
    simp only [chkE] at h
    simp only [CallsE] at hc
    split at h
    · rename_i xs e
      exact sound_plugT B hc.1 e (soundOs es B tk hc.2 h)
    · cases h
  | .callG c es, X, W, x, B, tk, hc, h => by
    simp only [chkE] at h
    simp only [CallsE] at hc
    split at h
    · rename_i xs e
      exact sound_callG B tk hc.1 e (soundOs es B tk hc.2 h)
    · cases h
  | .callH c e es, X, W, x, B, tk, hc, h => by
    simp only [chkE] at h
    simp only [CallsE] at hc
    split at h
    · rename_i o xs e1
      simp only [Bool.and_eq_true] at h
      exact sound_callH B tk hc.1 e1 (soundE e B tk hc.2.1 h.1) (soundOs es B tk hc.2.2 h.2)
    · cases h
  | .callM c i es, X, W, x, B, tk, hc, h => by
    simp only [chkE] at h
    simp only [CallsE] at hc
    split at h
    · rename_i o xs e1
      simp only [Bool.and_eq_true] at h
      exact sound_callM B tk hc.1 e1 h.1 (soundOs es B tk hc.2 h.2)
    · cases h
  | .callV f sem es, X, W, x, B, tk, hc, h => by
    simp only [chkE] at h
    split at h
    · rename_i m po xs pos
      simp only [Bool.and_eq_true, decide_eq_true_eq] at h
      obtain ⟨rfl, h2, h3, h4, h5⟩ := h
      simp only [CallsE] at hc
      cases xs with
      | nil => simp at h4
      | cons y ys => exact sound_callV B tk hc.1 h2 h3 (soundEs es B tk hc.2 h5)
    · cases h
  | .mut p i es, X, W, x, B, tk, hc, h => by
    simp only [chkE] at h
    simp only [CallsE] at hc
    split at h
    · simp only [Bool.and_eq_true, decide_eq_true_eq] at h
      obtain ⟨h1, rfl, h0, h2, h3, h4⟩ := h
      exact sound_mut B hc.1 h1 h0 h2 h3 (soundOs es B tk hc.2 h4)
    · cases h
  | .callL c i es fs, X, W, x, B, tk, hc, h => by
    simp only [chkE] at h
    simp only [CallsE] at hc
    split at h
    · rename_i o xs ys e1
      simp only [Bool.and_eq_true] at h
      exact sound_callL B tk hc.1 e1 h.1 (soundOs es B tk hc.2.1 h.2.1) (soundOs fs B tk hc.2.2 h.2.2)
    · cases h
  | .plugN p js, X, W, x, B, tk, hc, h => by
    simp only [chkE] at h
    simp only [CallsE] at hc
    split at h
    · rename_i xs e1
      exact sound_plugN B hc e1 h
    · cases h
  | .own p i es, X, W, x, B, tk, hc, h => by
    simp only [chkE] at h
    simp only [CallsE] at hc
    split at h
    · rename_i o xs e1
      simp only [Bool.and_eq_true] at h
      exact sound_own B hc.1 e1 h.1 (soundOs es B tk hc.2 h.2)
    · cases h
  | .frz e, X, W, x, B, tk, hc, h => sound_frz (soundE e B tk (by simpa only [CallsE] using hc) (by simpa only [chkE] using h))
  | .lend e, X, W, x, B, tk, hc, h => sound_lend (soundE e B tk (by simpa only [CallsE] using hc) (by simpa only [chkE] using h))
  | .and_ es, X, W, x, B, tk, hc, h => by
    simp only [chkE] at h
    split at h
    · rename_i xs pos
      simp only [Bool.and_eq_true] at h
      have k := soundAnd es (pos := pos) B tk (by simpa only [CallsE] using hc) h.1 (by simpa using h.2)
      exact fun σ ρ F H fp r ρ' Q S e q => k σ ρ F H fp r ρ' Q S (by simpa only [evE] using e) q
    · cases h
  | .or_ es, X, W, x, B, tk, hc, h => by
    simp only [chkE] at h
    split at h
    · rename_i xs pos
      simp only [Bool.and_eq_true] at h
      have k := soundOr es (pos := pos) B tk (by simpa only [CallsE] using hc) h.1 (by simpa using h.2)
      exact fun σ ρ F H fp r ρ' Q S e q => k σ ρ F H fp r ρ' Q S (by simpa only [evE] using e) q
    · cases h
  | .not_ e, X, W, x, B, tk, hc, h => by
    simp only [chkE] at h
    split at h
    · exact sound_not (soundE e B tk (by simpa only [CallsE] using hc) h)
    · cases h
  | .cmp2 p q a b c, X, W, x, B, tk, hc, h => by
    simp only [chkE] at h
    simp only [CallsE] at hc
    split at h
    · simp only [Bool.and_eq_true] at h
      obtain ⟨h1, h2, h3, h4, h5, h6⟩ := h
      exact sound_cmp2 h1 h2 h3 (soundE a B tk hc.1 h4) (soundE b B tk hc.2.1 h5) (soundE c B tk hc.2.2 h6)
    · cases h
  | .ite t a b, X, W, x, B, tk, hc, h => by
    simp only [chkE] at h
    simp only [CallsE] at hc
    split at h
    · simp only [Bool.and_eq_true] at h
      exact sound_ite (soundT t B tk hc.1 h.1) (soundE a B tk hc.2.1 h.2.1) (soundE b B tk hc.2.2 h.2.2)
    · cases h
  | .idxT y ys e, X, W, x, B, tk, hc, h => by
    simp only [chkE] at h
    simp only [CallsE] at hc
    split at h
    · simp only [Bool.and_eq_true, decide_eq_true_eq] at h
      obtain ⟨rfl, h2, rfl, h4, h5, h6⟩ := h
      exact sound_idxT B hc.1 h2 h4 h5 (soundE e B tk hc.2 h6)
    · cases h
  | .lenI es, X, W, x, B, tk, hc, h => by
    simp only [chkE] at h
    split at h
    · simp only [Bool.and_eq_true, decide_eq_true_eq] at h
      obtain ⟨rfl, h3, h4, h5⟩ := h
      exact sound_lenI B h3 h4 (soundOs es B tk (by simpa only [CallsE] using hc) h5)
    · cases h
  | .call f dv sem es, X, W, x, B, tk, hc, h => by
    simp only [chkE] at h
    split at h
    · rename_i m po xs pos
      simp only [Bool.and_eq_true, decide_eq_true_eq] at h
      obtain ⟨rfl, h2, h3, h4, h5⟩ := h
      simp only [CallsE] at hc
      cases xs with
      | nil => simp at h4
      | cons y ys => exact sound_call B tk hc.1 h2 h3 (soundOs es B tk hc.2 h5)
    · cases h
  | .lc g k src cs elt, X, W, x, B, tk, hc, h => by
    simp only [chkE] at h
    split at h
    · split at h
      · rename_i own xs e1 e2
        simp only [Bool.and_eq_true, decide_eq_true_eq] at h
        obtain ⟨h1, h2, h3, h4, h5⟩ := h
        simp only [CallsE] at hc
        exact sound_lc B hc.1 hc.2.1 e1 e2 (soundOs src B tk hc.2.2.1 h1) h2 (fun s H C cl fp => soundTs cs (W := WF) (B.blk s H _ C cl fp) (takes_blk s H _ C cl fp) hc.2.2.2.1 h3 h5) h5 fun s H C cl fp => soundE elt (B.blk s H _ C cl fp) (takes_blk s H _ C cl fp) hc.2.2.2.2 h4
      · cases h
    · cases h
theorem soundEs : ∀ (es : List E) {X : Cx} {W : WX} {xs : List Expr}, XOK X → Takes X W → CallsEs (gx X) es → chkEs X.N es X.env.scope xs = true → SoundEs X W xs (evEs es)
  | [], X, W, xs, B, tk, hc, h => by
    simp only [chkEs] at h
    rw [isEmpty_nil h]
    exact soundEs_nil
  | e :: es, X, W, xs, B, tk, hc, h => by
    simp only [chkEs] at h
    split at h
    · simp only [Bool.and_eq_true] at h
      simp only [CallsEs] at hc
      exact soundEs_cons (soundE e B tk hc.1 h.1) (soundEs es B tk hc.2 h.2)
    · cases h
theorem soundOs : ∀ (es : List E) {X : Cx} {W : WX} {xs : List Expr}, XOK X → Takes X W → CallsEs (gx X) es → chkEs X.N es X.env.scope xs = true → SoundOs X W xs (evOs es)
  | [], X, W, xs, B, tk, hc, h => by
    simp only [chkEs] at h
    rw [isEmpty_nil h]
    exact soundOs_nil fun ρ => by simp only [evOs]
  | e :: es, X, W, xs, B, tk, hc, h => by
    simp only [chkEs] at h
    split at h
    · simp only [Bool.and_eq_true] at h
      simp only [CallsEs] at hc
      exact soundOs_step h.1 (soundE e B tk hc.1 h.1) (soundOs es B tk hc.2 h.2)
    · cases h
theorem soundAnd : ∀ (es : List E) {X : Cx} {W : WX} {xs : List Expr} {pos : Pos}, XOK X → Takes X W → CallsEs (gx X) es → chkEs X.N es X.env.scope xs = true → xs ≠ [] → SoundE X W (.BoolOp .And xs pos) (evAnd es)
  | [], X, W, xs, pos, B, tk, hc, h, hne => by
    simp only [chkEs] at h
    exact absurd (isEmpty_nil h) hne
  | [e], X, W, xs, pos, B, tk, hc, h, hne => by
    simp only [chkEs] at h
    split at h
    · rename_i x xr
      simp only [Bool.and_eq_true] at h
      simp only [CallsEs] at hc
      have := isEmpty_nil h.2
      subst this
      exact sound_and1 (soundE e B tk hc.1 h.1)
    · cases h
  | e :: e2 :: es, X, W, xs, pos, B, tk, hc, h, hne => by
    obtain ⟨x, xr, rfl, h1, h2⟩ := chkEs_cons h
    obtain ⟨x2, xr2, rfl, _, _⟩ := chkEs_cons h2
    rw [CallsEs] at hc
    exact sound_and (soundE e B tk hc.1 h1) (soundAnd (e2 :: es) B tk hc.2 h2 (by simp))
theorem soundOr : ∀ (es : List E) {X : Cx} {W : WX} {xs : List Expr} {pos : Pos}, XOK X → Takes X W → CallsEs (gx X) es → chkEs X.N es X.env.scope xs = true → xs ≠ [] → SoundE X W (.BoolOp .Or xs pos) (evOr es)
  | [], X, W, xs, pos, B, tk, hc, h, hne => by
    simp only [chkEs] at h
    exact absurd (isEmpty_nil h) hne
  | [e], X, W, xs, pos, B, tk, hc, h, hne => by
    simp only [chkEs] at h
    split at h
    · rename_i x xr
      simp only [Bool.and_eq_true] at h
      simp only [CallsEs] at hc
      have := isEmpty_nil h.2
      subst this
      exact sound_or1 (soundE e B tk hc.1 h.1)
    · cases h
  | e :: e2 :: es, X, W, xs, pos, B, tk, hc, h, hne => by
    obtain ⟨x, xr, rfl, h1, h2⟩ := chkEs_cons h
    obtain ⟨x2, xr2, rfl, _, _⟩ := chkEs_cons h2
    rw [CallsEs] at hc
    exact sound_or (soundE e B tk hc.1 h1) (soundOr (e2 :: es) B tk hc.2 h2 (by simp))
theorem soundT : ∀ (e : E) {X : Cx} {W : WX} {x : Expr}, XOK X → Takes X W → CallsE (gx X) e → chkT X.N e X.env.scope x = true → SoundT X W x (evE e)
  | .and_ es, X, W, x, B, tk, hc, h => by
    simp only [chkT] at h
    split at h
    · rename_i xs pos
      simp only [Bool.and_eq_true] at h
      have k := soundWAnd es (pos := pos) B tk (by simpa only [CallsE] using hc) h.1 (by simpa using h.2)
      exact soundT_of fun σ ρ F H fp r ρ' Q S e q => k σ ρ F H fp r ρ' Q S (by simpa only [evE] using e) q
    · cases h
  | .or_ es, X, W, x, B, tk, hc, h => by
    simp only [chkT] at h
    split at h
    · rename_i xs pos
      simp only [Bool.and_eq_true] at h
      have k := soundWOr es (pos := pos) B tk (by simpa only [CallsE] using hc) h.1 (by simpa using h.2)
      exact soundT_of fun σ ρ F H fp r ρ' Q S e q => k σ ρ F H fp r ρ' Q S (by simpa only [evE] using e) q
    · cases h
  | .not_ e, X, W, x, B, tk, hc, h => by
    simp only [chkT] at h
    split at h
    · exact soundT_not (soundT e B tk (by simpa only [CallsE] using hc) h)
    · cases h
  | .var i, X, W, x, B, tk, hc, h => by
    simp only [chkT] at h
    obtain ⟨n, pos, rfl, _⟩ := name_of h
    exact soundT_plain rfl (sound_var h)
  | .prim p es, X, W, x, B, tk, hc, h => by
    simp only [chkT, Bool.and_eq_true, Bool.or_eq_true] at h
    obtain ⟨h1, h2⟩ := h
    split at h2
    · rename_i xs e
      simp only [CallsE] at hc
      have k := soundOs es (W := W) B tk hc.2 h2
      rcases h1 with h1 | h1
      · exact soundT_cmp B (by intro z; rw [z] at h1; cases h1) e k
      · exact soundT_plain h1 (sound_prim B hc.1 e k)
    · cases h2
  | .isi t es, X, W, x, B, tk, hc, h => by
    simp only [chkT] at h
    split at h
    · simp only [Bool.and_eq_true, decide_eq_true_eq] at h
      obtain ⟨rfl, rfl, h3, h4, h5, h6, h7⟩ := h
      exact soundT_plain rfl (sound_isi B h3 h4 h5 h6 (soundOs es B tk (by simpa only [CallsE] using hc) h7))
    · cases h
  | .call f dv sem es, X, W, x, B, tk, hc, h => by
    simp only [chkT] at h
    split at h
    · rename_i m po xs pos
      simp only [Bool.and_eq_true, decide_eq_true_eq] at h
      obtain ⟨rfl, h2, h3, h4, h5⟩ := h
      simp only [CallsE] at hc
      cases xs with
      | nil => simp at h4
      | cons y ys => exact soundT_plain rfl (sound_call B tk hc.1 h2 h3 (soundOs es B tk hc.2 h5))
    · cases h
  | .lend e, X, W, x, B, tk, hc, h => soundT_lend (soundT e B tk (by simpa only [CallsE] using hc) (by simpa only [chkT] using h))
  | .mv _, X, W, x, B, tk, hc, h => by simp only [chkT] at h; cases h
  | .non, X, W, x, B, tk, hc, h => by simp only [chkT] at h; cases h
  | .bl _, X, W, x, B, tk, hc, h => by simp only [chkT] at h; cases h
  | .int _, X, W, x, B, tk, hc, h => by simp only [chkT] at h; cases h
  | .str _, X, W, x, B, tk, hc, h => by simp only [chkT] at h; cases h
  | .glob _ _, X, W, x, B, tk, hc, h => by simp only [chkT] at h; cases h
  | .tup _, X, W, x, B, tk, hc, h => by simp only [chkT] at h; cases h
  | .lst _, X, W, x, B, tk, hc, h => by simp only [chkT] at h; cases h
  | .ot _, X, W, x, B, tk, hc, h => by simp only [chkT] at h; cases h
  | .ol _, X, W, x, B, tk, hc, h => by simp only [chkT] at h; cases h
  | .plug p es, X, W, x, B, tk, hc, h => by
    simp only [chkT, Bool.and_eq_true] at h
    simp only [CallsE] at hc
    obtain ⟨h1, h2⟩ := h
    split at h2
    · rename_i xs e
      exact soundT_plain h1 (sound_plug B hc.1 e (soundOs es B tk hc.2 h2))
    · cases h2
  | .plugT p es, X, W, x, B, tk, hc, h => by
    simp only [chkT] at h
    simp only [CallsE] at hc
    split at h
    · rename_i xs e
      exact soundT_plugT B hc.1 e (soundOs es B tk hc.2 h)
    · cases h
  | .callG c es, X, W, x, B, tk, hc, h => by
    simp only [chkT, Bool.and_eq_true] at h
    simp only [CallsE] at hc
    obtain ⟨h1, h2⟩ := h
    split at h2
    · rename_i xs e
      exact soundT_plain h1 (sound_callG B tk hc.1 e (soundOs es B tk hc.2 h2))
    · cases h2
  | .callH c e es, X, W, x, B, tk, hc, h => by
    simp only [chkT, Bool.and_eq_true] at h
    simp only [CallsE] at hc
    obtain ⟨h1, h2⟩ := h
    split at h2
    · rename_i o xs e1
      simp only [Bool.and_eq_true] at h2
      exact soundT_plain h1 (sound_callH B tk hc.1 e1 (soundE e B tk hc.2.1 h2.1) (soundOs es B tk hc.2.2 h2.2))
    · cases h2
  | .callM c i es, X, W, x, B, tk, hc, h => by
    simp only [chkT, Bool.and_eq_true] at h
    simp only [CallsE] at hc
    obtain ⟨h1, h2⟩ := h
    split at h2
    · rename_i o xs e1
      simp only [Bool.and_eq_true] at h2
      exact soundT_plain h1 (sound_callM B tk hc.1 e1 h2.1 (soundOs es B tk hc.2 h2.2))
    · cases h2
  | .callV _ _ _, X, W, x, B, tk, hc, h => by simp only [chkT] at h; cases h
  | .mut _ _ _, X, W, x, B, tk, hc, h => by simp only [chkT] at h; cases h
  | .own _ _ _, X, W, x, B, tk, hc, h => by simp only [chkT] at h; cases h
  | .plugN _ _, X, W, x, B, tk, hc, h => by simp only [chkT] at h; cases h
  | .callL _ _ _ _, X, W, x, B, tk, hc, h => by simp only [chkT] at h; cases h
  | .frz _, X, W, x, B, tk, hc, h => by simp only [chkT] at h; cases h
  | .cmp2 p q a b c, X, W, x, B, tk, hc, h => by
    simp only [chkT] at h
    simp only [CallsE] at hc
    split at h
    · simp only [Bool.and_eq_true] at h
      obtain ⟨h1, h2, h3, h4, h5, h6⟩ := h
      exact soundT_cmp2 h1 h2 h3 (soundE a B tk hc.1 h4) (soundE b B tk hc.2.1 h5) (soundE c B tk hc.2.2 h6)
    · cases h
  | .ite _ _ _, X, W, x, B, tk, hc, h => by simp only [chkT] at h; cases h
  | .lenI _, X, W, x, B, tk, hc, h => by simp only [chkT] at h; cases h
  | .idxT _ _ _, X, W, x, B, tk, hc, h => by simp only [chkT] at h; cases h
  | .lc _ _ _ _ _, X, W, x, B, tk, hc, h => by simp only [chkT] at h; cases h
theorem soundTs : ∀ (es : List E) {X : Cx} {W : WX} {xs : List Expr}, XOK X → Takes X W → CallsEs (gx X) es → chkTs X.N es X.env.scope xs = true → xs.length ≤ 1 → SoundTs X xs (evTs es)
  | [], X, W, xs, B, tk, hc, h, hl => by
    simp only [chkTs] at h
    rw [isEmpty_nil h]
    exact soundTs_nil
  | [e], X, W, xs, B, tk, hc, h, hl => by
    simp only [chkTs] at h
    split at h
    · simp only [Bool.and_eq_true] at h
      simp only [CallsEs] at hc
      have := isEmpty_nil h.2
      subst this
      exact soundTs_one (W := W) (soundT e B tk hc.1 h.1)
    · cases h
  | e :: e2 :: es, X, W, xs, B, tk, hc, h, hl => by
    simp only [chkTs] at h
    split at h
    · simp only [Bool.and_eq_true] at h
      split at h
      · simp at hl
      · exact absurd h.2 (by simp)
    · cases h
theorem soundWAnd : ∀ (es : List E) {X : Cx} {W : WX} {xs : List Expr} {pos : Pos}, XOK X → Takes X W → CallsEs (gx X) es → chkTs X.N es X.env.scope xs = true → xs ≠ [] → SoundW X W (.BoolOp .And xs pos) (evAnd es)
  | [], X, W, xs, pos, B, tk, hc, h, hne => by
    simp only [chkTs] at h
    exact absurd (isEmpty_nil h) hne
  | [e], X, W, xs, pos, B, tk, hc, h, hne => by
    simp only [chkTs] at h
    split at h
    · rename_i x xr
      simp only [Bool.and_eq_true] at h
      simp only [CallsEs] at hc
      have := isEmpty_nil h.2
      subst this
      exact soundW_and1 (soundT e B tk hc.1 h.1)
    · cases h
  | e :: e2 :: es, X, W, xs, pos, B, tk, hc, h, hne => by
    obtain ⟨x, xr, rfl, h1, h2⟩ := chkTs_cons h
    obtain ⟨x2, xr2, rfl, _, _⟩ := chkTs_cons h2
    rw [CallsEs] at hc
    exact soundW_and (soundT e B tk hc.1 h1) (soundWAnd (e2 :: es) B tk hc.2 h2 (by simp))
theorem soundWOr : ∀ (es : List E) {X : Cx} {W : WX} {xs : List Expr} {pos : Pos}, XOK X → Takes X W → CallsEs (gx X) es → chkTs X.N es X.env.scope xs = true → xs ≠ [] → SoundW X W (.BoolOp .Or xs pos) (evOr es)
  | [], X, W, xs, pos, B, tk, hc, h, hne => by
    simp only [chkTs] at h
    exact absurd (isEmpty_nil h) hne
  | [e], X, W, xs, pos, B, tk, hc, h, hne => by
    simp only [chkTs] at h
    split at h
    · rename_i x xr
      simp only [Bool.and_eq_true] at h
      simp only [CallsEs] at hc
      have := isEmpty_nil h.2
      subst this
      exact soundW_or1 (soundT e B tk hc.1 h.1)
    · cases h
  | e :: e2 :: es, X, W, xs, pos, B, tk, hc, h, hne => by
    obtain ⟨x, xr, rfl, h1, h2⟩ := chkTs_cons h
    obtain ⟨x2, xr2, rfl, _, _⟩ := chkTs_cons h2
    rw [CallsEs] at hc
    exact soundW_or (soundT e B tk hc.1 h1) (soundWOr (e2 :: es) B tk hc.2 h2 (by simp))
end
end DV
namespace DV
open PySem PySem.Spec PyProof.Rows L2
inductive Fl where
  | nx | bk | ct | rt (o : O) | ex (x : Ex)
def setAllO : List Nat → List O → Ev → Option Ev
  | [], [], ρ => some ρ
  | i :: is, o :: os, ρ => if i < ρ.length then setAllO is os (ρ.set i (some o)) else none
  | _, _, _ => none
def forRun (g : Tg) (body : Ev → Option (Fl × Ev)) : List D → Ev → Option (Fl × Ev)
  | [], ρ => some (.nx, ρ)
  | d :: ds, ρ => match g.set d ρ with
    | none => none
    | some ρ1 => match body ρ1 with
      | some (.nx, ρ2) => forRun g body ds ρ2
      | some (.ct, ρ2) => forRun g body ds ρ2
      | some (.bk, ρ2) => some (.nx, ρ2)
      | some (.rt o, ρ2) => some (.rt o, ρ2)
      | some (.ex x, ρ2) => some (.ex x, ρ2)
      | none => none
def whlRun (t : Ev → Res O) (body : Ev → Option (Fl × Ev)) : Nat → Ev → Option (Fl × Ev)
  | 0, _ => none
  | n + 1, ρ => match t ρ with
    | some (.ok (.p (.bl true)), ρ1) => match body ρ1 with
      | some (.nx, ρ2) => whlRun t body n ρ2
      | some (.ct, ρ2) => whlRun t body n ρ2
      | some (.bk, ρ2) => some (.nx, ρ2)
      | some (.rt o, ρ2) => some (.rt o, ρ2)
      | some (.ex x, ρ2) => some (.ex x, ρ2)
      | none => none
    | some (.ok (.p (.bl false)), ρ1) => some (.nx, ρ1)
    | some (.ex x, ρ1) => some (.ex x, ρ1)
    | _ => none
/-- a statement that stores a value in a slot -/
def stO (i : Nat) : Res O → Option (Fl × Ev)
  | some (.ok o, ρ') => if i < ρ'.length then some (.nx, ρ'.set i (some o)) else none
  | some (.ex x, ρ') => some (.ex x, ρ')
  | none => none
def retO : Res O → Option (Fl × Ev)
  | some (.ok o, ρ') => some (.rt o, ρ')
  | some (.ex x, ρ') => some (.ex x, ρ')
  | none => none
def dropO : Res O → Option (Fl × Ev)
  | some (.ok _, ρ') => some (.nx, ρ')
  | some (.ex x, ρ') => some (.ex x, ρ')
  | none => none
def tupT (is : List Nat) : Res (List Opd) → Option (Fl × Ev)
  | some (.ok qs, ρ') => match vws ρ' qs with
    | some [o] => match o.items with
      | some ds => match setAll is ds ρ' with
        | some ρ2 => some (.nx, ρ2)
        | none => none
      | none => none
    | _ => none
  | some (.ex x, ρ') => some (.ex x, ρ')
  | none => none
def tupO (is : List Nat) : Res O → Option (Fl × Ev)
  | some (.ok (.ot os), ρ') => match setAllO is os ρ' with
    | some ρ2 => some (.nx, ρ2)
    | none => none
  | some (.ex x, ρ') => some (.ex x, ρ')
  | _ => none
/-- x.append(d) -/
def appO (i : Nat) : Res O → Option (Fl × Ev)
  | some (.ok o, ρ') => match ρ'[i]? with
    | some (some (.lst ds)) => match o with
      | .p d => if ds.length < sizeLine then some (.nx, ρ'.set i (some (.lst (ds ++ [d])))) else none
      | _ => none
    | _ => none
  | some (.ex x, ρ') => some (.ex x, ρ')
  | none => none
/-- x[j] = d -/
def setO (i : Nat) (d : D) : Res O → Option (Fl × Ev)
  | some (.ok (.p (.int j)), ρ') => match ρ'[i]? with
    | some (some (.lst ds)) => match L2.ixN ds.length j with
      | some k => some (.nx, ρ'.set i (some (.lst (ds.set k d))))
      | none => none
    | _ => none
  | some (.ex x, ρ') => some (.ex x, ρ')
  | _ => none
/-- x[a][b] = d, x a list of lists of its own -/
def setinO (i : Nat) (os : List O) (a : Int) (d : D) : Res O → Option (Fl × Ev)
  | some (.ok o, ρ') => match o with
    | .p (.int b) => match L2.ixN os.length a with
      | some k => match os[k]? with
        | some (.lst ds) => match L2.ixN ds.length b with
          | some jj => some (.nx, ρ'.set i (some (.ol (os.set k (.lst (ds.set jj d))))))
          | none => none
        | _ => none
      | none => none
    | _ => none
  | _ => none
/-- x[j].append(d), x a list of lists of its own -/
def appinO (i : Nat) (os : List O) (j : Int) : Res O → Option (Fl × Ev)
  | some (.ok o, ρ') => match o with
    | .p d => match L2.ixN os.length j with
      | some k => match os[k]? with
        | some (.lst ds) => if ds.length < sizeLine then some (.nx, ρ'.set i (some (.ol (os.set k (.lst (ds ++ [d])))))) else none
        | _ => none
      | none => none
    | _ => none
  | some (.ex x, ρ') => none
  | none => none
mutual
def asS : S → List Nat
  | .asg i _ => [i]
  | .asgT is _ => is
  | .asgO is _ => is
  | .ife _ a b => asSs a ++ asSs b
  | .for_ g _ _ body => g.slots ++ asSs body
  | .whl _ body => asSs body
  | .try_ body hs => asSs body ++ asHs hs
  | .seti _ _ _ | .app _ _ | .appin _ _ _ | .appinV _ _ _ | .setin _ _ _ _ | .smut _ _ _ _ | .seto _ _ _ _ | .smutL _ _ _ | .rsp _ _ | .ex _ | .ret _ | .retN | .pass | .brk | .cnt | .fz _ | .nev | .rse _ | .kill _ => []
def asHs : Hs → List Nat
  | .nil => []
  | .cons _ _ _ nm suite r => nm.toList ++ asSs suite ++ asHs r
def asSs : List S → List Nat
  | [] => []
  | s :: ss => asS s ++ asSs ss
end
/-- the name of an except clause comes, and goes -/
def suiteI : Option Nat → Ex → Ev → Option Ev
  | none, _, ρ => some ρ
  | some i, x, ρ => if i < ρ.length then some (ρ.set i (some (.p (.exc x.c x.ns x.ds)))) else none
def suiteK : Option Nat → Ev → Ev
  | none, ρ => ρ
  | some i, ρ => ρ.set i none
def suiteE (nm : Option Nat) : Option (Fl × Ev) → Option (Fl × Ev)
  | some (.ex _, _) => none
  | some (fl, ρ) => some (fl, suiteK nm ρ)
  | none => none
/-- a name that is read as it is -/
def nmD (ρ : Ev) : Option Nat → Option (Option D)
  | none => some none
  | some j => match ρ[j]? with
    | some (some (.p d)) => some (some d)
    | _ => none
def smutD (i : Nat) (ρ : Ev) : Option O → Option (Fl × Ev)
  | some o => some (.nx, ρ.set i (some o))
  | none => none
def smutC (p : SMut) (i : Nat) (ρ : Ev) : Option (Option O) → Option (List O) → Option (Option D) → Option (Fl × Ev)
  | some (some o), some os, some dn => smutD i ρ (p.ev o os dn)
  | _, _, _ => none
def smutB (p : SMut) (i : Nat) (j : Option Nat) : Res (List Opd) → Option (Fl × Ev)
  | some (.ok qs, ρ) => smutC p i ρ ρ[i]? (vws ρ qs) (nmD ρ j)
  | some (.ex x, ρ) => some (.ex x, ρ)
  | none => none
def smutA (p : SMut) (r : Option (Fl × Ev)) : Option (Option O) → Option (Fl × Ev)
  | some (some o) => if p.ok o = true then r else none
  | _ => none
def smutLD (p : SMut) (i : Nat) (o : O) : Res (List Opd) → Option (Fl × Ev)
  | some (.ok qs, ρ) => smutC p i ρ (some (some o)) (vws ρ qs) (some none)
  | some (.ex x, ρ) => some (.ex x, ρ.set i (some o))
  | none => none
def smutLC (p : SMut) (i : Nat) (o : O) (f : Ev → Res (List Opd)) (ρ : Ev) : Bool → Option (Fl × Ev)
  | true => smutLD p i o (f (ρ.set i none))
  | false => none
def smutLA (p : SMut) (i : Nat) (f : Ev → Res (List Opd)) (ρ : Ev) : Option (Option O) → Option (Fl × Ev)
  | some (some o) => smutLC p i o f ρ (p.ok o)
  | _ => none
def setoC (p : SetOD) (i : Nat) (o : O) (ρ : Ev) : Option (Option O) → Option (Option D) → Option (Fl × Ev)
  | some (some o1), some dn => smutD i ρ (p.ev o1 o dn)
  | _, _ => none
def setoB (p : SetOD) (i : Nat) (j : Option Nat) : Res O → Option (Fl × Ev)
  | some (.ok o, ρ) => setoC p i o ρ ρ[i]? (nmD ρ j)
  | some (.ex x, ρ) => some (.ex x, ρ)
  | none => none
def setoA (p : SetOD) (r : Option (Fl × Ev)) : Option (Option O) → Option (Fl × Ev)
  | some (some o) => if p.ok o = true then r else none
  | _ => none
def rspD (ρ : Ev) : Option Ex → Option (Fl × Ev)
  | some x => some (.ex x, ρ)
  | none => none
def rspC (p : RaiseD) (ρ : Ev) : Option (List O) → Option (Fl × Ev)
  | some os => rspD ρ (p.ev os)
  | none => none
def rspB (p : RaiseD) : Res (List Opd) → Option (Fl × Ev)
  | some (.ok qs, ρ) => rspC p ρ (vws ρ qs)
  | some (.ex x, ρ) => some (.ex x, ρ)
  | none => none
mutual
def evS (n : Nat) : S → Ev → Option (Fl × Ev)
  | .asg i e, ρ => stO i (evE e ρ)
  | .asgT is e, ρ => tupT is (evOs [e] ρ)
  | .asgO is e, ρ => tupO is (evE e ρ)
  | .seti i k v, ρ => match evE v ρ with
    | some (.ok (.p d), ρ1) => match ρ1[i]? with
      | some (some (.lst _)) => setO i d (evE k ρ1)
      | _ => none
    | some (.ex x, ρ1) => some (.ex x, ρ1)
    | _ => none
  | .app i e, ρ => match ρ[i]? with
    | some (some (.lst _)) => appO i (evE e ρ)
    | _ => none
  | .appin i k e, ρ => match ρ[i]? with
    | some (some (.ol _)) => match evE k ρ with
      | some (.ok (.p (.int j)), ρ1) => match ρ1[i]? with
        | some (some (.ol os)) => appinO i os j (evE e (ρ1.set i none))
        | _ => none
      | _ => none
    | _ => none
  | .appinV i k e, ρ => match ρ[i]? with
    | some (some (.ol _)) => match evE k ρ with
      | some (.ok (.p (.int j)), ρ1) => match ρ1[i]? with
        | some (some (.ol os)) => appinO i os j (lendC (ρ1.set i none) (evE e (viewE ρ1)))
        | _ => none
      | _ => none
    | _ => none
  | .setin i k j v, ρ => match evE v ρ with
    | some (.ok (.p d), ρ0) => match ρ0[i]? with
      | some (some (.ol _)) => match evE k ρ0 with
        | some (.ok (.p (.int a)), ρ1) => match ρ1[i]? with
          | some (some (.ol os)) => setinO i os a d (evE j (ρ1.set i none))
          | _ => none
        | _ => none
      | _ => none
    | some (.ex x, ρ1) => some (.ex x, ρ1)
    | _ => none
  | .nev, ρ => none
  | .rse c, ρ => some (.ex ⟨c, [], []⟩, ρ)
  | .smut p i es j, ρ => smutA p (smutB p i j (evOs es ρ)) ρ[i]?
  | .rsp p es, ρ => rspB p (evOs es ρ)
  | .seto p i e j, ρ => setoA p (setoB p i j (evE e ρ)) ρ[i]?
  | .smutL p i es, ρ => smutLA p i (fun r => evOs es r) ρ ρ[i]?
  | .kill is, ρ => some (.nx, hideAll ρ is)
  | .try_ body hs, ρ => match evSs n body ρ with
    | some (.ex x, ρ1) => evHs n hs x ρ1
    | r => r
  | .ex e, ρ => dropO (evE e ρ)
  | .ife t a b, ρ => match evE t ρ with
    | some (.ok (.p (.bl true)), ρ1) => evSs n a ρ1
    | some (.ok (.p (.bl false)), ρ1) => evSs n b ρ1
    | some (.ex x, ρ1) => some (.ex x, ρ1)
    | _ => none
  | .for_ g k src body, ρ => match evOs src ρ with
    | some (.ok qs, ρ') => match vws ρ' qs with
      | some os => match itD k os with
        | some ds => if (lockd ρ' qs).Nodup ∧ ∀ i ∈ lockd ρ' qs, i ∉ g.slots ++ asSs body then match forRun g (fun r => evSs n body r) ds (hideAll ρ' (lockd ρ' qs)) with
          | some (fl, ρ2) => some (fl, backAll ρ' ρ2 (lockd ρ' qs))
          | none => none else none
        | none => none
      | none => none
    | some (.ex x, ρ') => some (.ex x, ρ')
    | none => none
  | .whl t body, ρ => whlRun (fun r => evE t r) (fun r => evSs n body r) n ρ
  | .ret e, ρ => retO (evE e ρ)
  | .retN, ρ => some (.rt (.p .non), ρ)
  | .pass, ρ => some (.nx, ρ)
  | .brk, ρ => some (.bk, ρ)
  | .cnt, ρ => some (.ct, ρ)
  | .fz i, ρ => match ρ[i]? with
    | some (some o) => some (.nx, ρ.set i (some (.p o.frz)))
    | _ => none
def evSs (n : Nat) : List S → Ev → Option (Fl × Ev)
  | [], ρ => some (.nx, ρ)
  | s :: ss, ρ => match evS n s ρ with
    | some (.nx, ρ') => evSs n ss ρ'
    | some (.bk, ρ') => some (.bk, ρ')
    | some (.ct, ρ') => some (.ct, ρ')
    | some (.rt o, ρ') => some (.rt o, ρ')
    | some (.ex x, ρ') => some (.ex x, ρ')
    | none => none
def evHs (n : Nat) : Hs → Ex → Ev → Option (Fl × Ev)
  | .nil, x, ρ => some (.ex x, ρ)
  | .cons _ _ tb nm suite r, x, ρ => match tb.lookup x.c with
    | some true => match suiteI nm x ρ with
      | some ρ1 => suiteE nm (evSs n suite ρ1)
      | none => none
    | some false => evHs n r x ρ
    | none => none
end
/-- an own exception's class, without an own __init__ -/
def ExcOk (g : Gx) (c : Str) : Prop := ∃ C, g.mg c = some (.ref C) ∧ PySem.W.keepIn g.K (.ref C) = true ∧ PySem.W.excIn g.K C He.veBase "ValueError.__new__" = true ∧ PySem.W.subIn g.K (.ref C) (.type "BaseException") = some true ∧ PySem.W.typeIn g.K (.ref C) = some (.type "type") ∧ (c == ("__debug__" : Str)) = false
def ClsAll (g : Gx) : List Str → List Value → Prop
  | [], vs => vs = []
  | c :: cs, vs => ∃ a r, vs = .ref a :: r ∧ g.mg c = some (.ref a) ∧ (c == ("__debug__" : Str)) = false ∧ ClsAll g cs r
/-- how the raised classes match -/
def TbOk (g : Gx) (cs : List Str) (tb : List (Str × Bool)) : Prop := ∃ vs, ClsAll g cs vs ∧ ∀ c b, tb.lookup c = some b → ∀ C, g.mg c = some (.ref C) → PySem.W.exmAny g.K (.ref C) vs = some b
abbrev Gx.hot (g : Gx) (a : Addr) : Gx := { g with A := g.A.mark (some (.ref a)), calm := false }
/-- what is wanted at a statement that changes a slot's thing -/
def NmRep (g : Gl) (F : Hp) (σ : St) : Option Nat → Option D → Prop
  | none, none => True
  | some j, some d => ∃ u, σ[j]? = some (some u) ∧ RepD g F d u
  | _, _ => False
def NmPE (X : Cx) : Option Nat → Option Expr → Prop
  | none, none => True
  | some j, some x => PE X x (tVar j) ∧ notStar x = true
  | _, _ => False
def WantSM (X : Cx) (p : SMut) (v : V) (σ : St) (j : Option Nat) (Q : Hp → Prop) (vs : List V) (H : Hp) : Prop := ∃ (F : Hp) (o : O) (as : List Addr) (os : List O) (dn : Option D) (o' : O), Sub F H ∧ RepO (gl X) F H o v as ∧ as.Nodup ∧ RepVs (gl X) F H os vs ∧ NmRep (gl X) F σ j dn ∧ p.ev o os dn = some o' ∧
  ∀ F' H' as', Sub F F' → Sub F' H' → (∀ b w, H b = some w → b ∉ as → H' b = some w) → (∀ b w, F' b = some w → F b = some w ∨ H b = none) → RepO (gl X) F' H' o' v as' → as'.Nodup → (∀ b ∈ as', b ∈ as ∨ H b = none) → Q H'
structure SMutOk (g : Gx) (p : SMut) : Prop where
  run : ∀ {X : Cx}, gx X = g → XOK X → ∀ {i : Nat} {j : Option Nat} {st : Stmt} {oe : Expr} {args : List Expr} {nm : Option Expr} {σ : St} {H : Hp} {D : Ends} {v : V} {F0 : Hp} {o0 : O} {as0 : List Addr}, p.sx X.env.scope st = some (oe, args, nm) → NmPE X j nm → PE X oe (tVar i) → (∀ l, attributeBase oe l X.env (eval oe X.env) = eval oe X.env) →
    σ[i]? = some (some v) → Sub F0 H → RepO (gl X) F0 H o0 v as0 → p.ok o0 = true → WPEs X args σ H (WantSM X p v σ j fun H' => D.nx σ H') → WPS X st D σ H
/-- what is wanted where something of one's own is laid into a slot's thing -/
def WantSO (X : Cx) (p : SetOD) (v : V) (σ : St) (j : Option Nat) (Q : Hp → Prop) (u : V) (H : Hp) : Prop := ∃ (F : Hp) (o : O) (as : List Addr) (ou : O) (bs : List Addr) (dn : Option D) (o' : O), Sub F H ∧ RepO (gl X) F H o v as ∧ RepO (gl X) F H ou u bs ∧ (as ++ bs).Nodup ∧ NmRep (gl X) F σ j dn ∧ p.ev o ou dn = some o' ∧
  ∀ F' H' as', Sub F F' → Sub F' H' → (∀ b w, H b = some w → b ∉ as → H' b = some w) → (∀ b w, F' b = some w → F b = some w ∨ H b = none) → RepO (gl X) F' H' o' v as' → as'.Nodup → (∀ b ∈ as', b ∈ as ++ bs ∨ H b = none) → Q H'
/-- .. whose thing stays as it is till the operands are there -/
structure SMutLOk (g : Gx) (p : SMut) : Prop where
  run : ∀ {X : Cx}, gx X = g → XOK X → ∀ {i : Nat} {st : Stmt} {oe : Expr} {args : List Expr} {σ : St} {H : Hp} {D : Ends} {v : V} {F0 : Hp} {o0 : O} {as0 : List Addr}, p.sx X.env.scope st = some (oe, args, none) → PE X oe (tVar i) → (∀ l, attributeBase oe l X.env (eval oe X.env) = eval oe X.env) →
    σ[i]? = some (some v) → Sub F0 H → RepO (gl X) F0 H o0 v as0 → as0.Nodup → p.ok o0 = true → WPEs X args σ H (fun vs H1 => KeepsAt as0 H H1 ∧ ∃ F os o', Sub F H1 ∧ RepO (gl X) F H1 o0 v as0 ∧ RepVs (gl X) F H1 os vs ∧ p.ev o0 os none = some o' ∧
      ∀ F' H' as', Sub F F' → Sub F' H' → (∀ b w, H1 b = some w → b ∉ as0 → H' b = some w) → (∀ b w, F' b = some w → F b = some w ∨ H1 b = none) → RepO (gl X) F' H' o' v as' → as'.Nodup → (∀ b ∈ as', b ∈ as0 ∨ H1 b = none) → D.nx σ H') → WPS X st D σ H
structure SetOk (g : Gx) (p : SetOD) : Prop where
  run : ∀ {X : Cx}, gx X = g → XOK X → ∀ {i : Nat} {j : Option Nat} {st : Stmt} {oe val : Expr} {nm : Option Expr} {σ : St} {H : Hp} {D : Ends} {v : V} {F0 : Hp} {o0 : O} {as0 : List Addr}, p.sx X.env.scope st = some (oe, val, nm) → NmPE X j nm → PE X oe (tVar i) → (∀ l, attributeBase oe l X.env (eval oe X.env) = eval oe X.env) →
    σ[i]? = some (some v) → Sub F0 H → RepO (gl X) F0 H o0 v as0 → p.ok o0 = true → WPE X val σ H (WantSO X p v σ j fun H' => D.nx σ H') → WPS X st D σ H
/-- what is wanted at a raise -/
def WantR (X : Cx) (p : RaiseD) (Q : Value → Option Addr → Hp → Prop) (vs : List V) (H : Hp) : Prop := ∃ (F : Hp) (os : List O) (x : Ex), Sub F H ∧ RepVs (gl X) F H os vs ∧ p.ev os = some x ∧
  ∀ C d F' H', Sub F F' → Sub F' H' → (∀ a u, H a = some u → H' a = some u) → (∀ a u, F' a = some u → F a = some u ∨ H a = none) → RepX (gl X) F' x C d → Q C d H'
structure RaiseOk (g : Gx) (p : RaiseD) : Prop where
  run : ∀ {X : Cx} {W : WX}, gx X = g → XOK X → Takes X W → X.calm = true → ∀ {st : Stmt} {xs : List Expr} {σ : St} {H : Hp} {D : Ends}, p.sx X.env.scope st = some xs → WPEs X xs σ H (WantR X p fun C d H' => W C d σ H') → WPS X st D σ H
mutual
def CallsS (g : Gx) : S → Prop
  | .asg _ e => CallsE g e
  | .asgT _ e => g.calm = true ∧ CallsE g e
  | .asgO _ e => g.calm = true ∧ CallsE g e
  | .seti _ k v => CallsE g k ∧ CallsE g v
  | .app _ e => CallsE g e
  | .appin _ k e => CallsE g k ∧ CallsE g e
  | .appinV _ k e => CallsE g k ∧ CallsE g e
  | .setin _ k j v => CallsE g k ∧ (CallsE g j ∧ CallsE g v)
  | .ex e => CallsE g e
  | .ife t a b => CallsE g t ∧ CallsSs g a ∧ CallsSs g b
  | .smut p _ es _ => SMutOk g p ∧ CallsEs g es
  | .seto p _ e _ => SetOk g p ∧ CallsE g e
  | .smutL p _ es => SMutLOk g p ∧ CallsEs g es
  | .rsp p es => g.calm = true ∧ RaiseOk g p ∧ CallsEs g es
  | .for_ _ k src body => g.calm = true ∧ ItKOk g k ∧ CallsEs g src ∧ CallsSs g body
  | .whl t body => CallsE g t ∧ CallsSs g body
  | .ret e => CallsE g e
  | .rse c => g.calm = true ∧ ExcOk g c
  | .try_ body hs => CallsSs g body ∧ CallsHs g hs
  | .retN | .pass | .brk | .cnt | .fz _ | .nev | .kill _ => True
def CallsSs (g : Gx) : List S → Prop
  | [] => True
  | s :: ss => CallsS g s ∧ CallsSs g ss
def CallsHs (g : Gx) : Hs → Prop
  | .nil => True
  | .cons _ cs tb _ suite r => TbOk g cs tb ∧ (∀ a, CallsSs (g.hot a) suite) ∧ CallsHs g r
end
def notLc : Expr → Bool
  | .ListComp _ _ _ _ => false | .SetComp _ _ _ _ => false | .DictComp _ _ _ _ _ => false
  | _ => true
def notTup : Expr → Bool
  | .Tuple _ _ _ => false
  | _ => true
/-- what stands at a name's assignment: the name's own row, or not so -/
def swB (sc : Scope) (y : Str) (py : Pos) : Expr → Bool
  | .ListComp _ _ scope pos => decide (sc.names.lookup y = some .cell) || (decide (sc.names.lookup y = some .local) && (py.line == pos.line && !(scope.names.any fun (n, k) => n == y && (k == .local || k == .cell))))
  | x => notLc x
def isLcE : E → Bool
  | .lc _ _ _ _ _ => true
  | _ => false
def namesB (sc : Scope) : List Str → List Expr → Bool
  | [], es => es.isEmpty
  | c :: cs, es => (match es with | .Name x _ :: r => decide (x = c) && (glName sc x && namesB sc cs r) | _ => false)
def testB (one : Bool) (cs : List Str) (sc : Scope) : Expr → Bool
  | .Name x _ => one && (decide (cs = [x]) && glName sc x)
  | .Tuple es _ _ => !one && (namesB sc cs es && decide (cs.length ≤ 100))
  | _ => false
def nmB (N : List Str) (sc : Scope) : Option Nat → Option Str → Bool
  | none, none => true
  | some i, some x => decide (N[i]? = some x) && lclB sc x
  | _, _ => false
def nmE (N : List Str) (sc : Scope) : Option Nat → Option Expr → Bool
  | none, none => true
  | some j, some x => nameB N sc j x
  | _, _ => false
mutual
def chkS (N : List Str) : S → Scope → Stmt → Bool
  | .asg i e, sc, st => (match st with
    | .Assign [.Name y py] x _ => decide (N[i]? = some y) && (locB sc y && (swB sc y py x && (chkE N e sc x && (notLc x || isLcE e))))
    | _ => false)
  | .asgT is e, sc, st => (match st with
    | .Assign [.Tuple ts k p] x _ => (tgNames N (locB sc) (.tup is) (.Tuple ts k p)).isSome && (notTup x && chkEs N [e] sc [x])
    | _ => false)
  | .asgO is e, sc, st => (match st with
    | .Assign [.Tuple ts k p] x _ => (tgNames N (locB sc) (.tup is) (.Tuple ts k p)).isSome && (notTup x && chkE N e sc x)
    | _ => false)
  | .seti i k v, sc, st => (match st with
    | .Assign [.Subscript o ix _] x _ => nameB N sc i o && (notSlice ix && (chkE N k sc ix && chkE N v sc x))
    | _ => false)
  | .app i e, sc, st => (match st with
    | .Expr (.Call (.Attribute o m ap) [x] [] cp) _ => nameB N sc i o && (decide (m = "append") && (notStar x && (ap.endLine == cp.line && chkE N e sc x)))
    | _ => false)
  | .appin i k e, sc, st => (match st with
    | .Expr (.Call (.Attribute (.Subscript o ix _) m ap) [x] [] cp) _ => nameB N sc i o && (chkE N k sc ix && (notSlice ix && (decide (m = "append") && (notStar x && (ap.endLine == cp.line && chkE N e sc x)))))
    | _ => false)
  | .appinV i k e, sc, st => (match st with
    | .Expr (.Call (.Attribute (.Subscript o ix _) m ap) [x] [] cp) _ => nameB N sc i o && (chkE N k sc ix && (notSlice ix && (decide (m = "append") && (notStar x && (ap.endLine == cp.line && chkE N e sc x)))))
    | _ => false)
  | .setin i k j v, sc, st => (match st with
    | .Assign [.Subscript (.Subscript o ix _) jx _] x _ => nameB N sc i o && (notSlice ix && (notSlice jx && (chkE N k sc ix && (chkE N j sc jx && chkE N v sc x))))
    | _ => false)
  | .nev, _, _ => true
  | .smut p i es j, sc, st => (match p.sx sc st with | some (o, xs, nm) => nameB N sc i o && (chkEs N es sc xs && nmE N sc j nm) | none => false)
  | .seto p i e j, sc, st => (match p.sx sc st with | some (o, x, nm) => nameB N sc i o && (chkE N e sc x && nmE N sc j nm) | none => false)
  | .smutL p i es, sc, st => (match p.sx sc st with | some (o, xs, none) => nameB N sc i o && chkEs N es sc xs | _ => false)
  | .rsp p es, sc, st => (match p.sx sc st with | some xs => chkEs N es sc xs | none => false)
  | .rse c, sc, st => (match st with
    | .Raise (some (.Call (.Name x _) [.Constant (.str _) _ _] [] _)) none _ => decide (x = c) && glName sc c
    | _ => false)
  | .ex e, sc, st => (match st with
    | .Expr x _ => notLc x && chkE N e sc x
    | _ => false)
  | .ife t a b, sc, st => (match st with
    | .If c x y _ => chkT N t sc c && (chkSs N a sc x && chkSs N b sc y)
    | _ => false)
  | .for_ g k src body, sc, st => (match st with
    | .For tg it x [] _ => (tgNames N (locB sc) g tg).isSome && ((match itOpnds k sc tg it with | some xs => chkEs N src sc xs | none => false) && chkSs N body sc x)
    | _ => false)
  | .whl t body, sc, st => (match st with
    | .While c x [] _ => chkT N t sc c && chkSs N body sc x
    | _ => false)
  | .ret e, sc, st => (match st with
    | .Return (some x) _ => chkE N e sc x
    | _ => false)
  | .retN, _, st => (match st with | .Return none _ => true | _ => false)
  | .pass, _, st => (match st with | .Pass _ => true | _ => false)
  | .brk, _, st => (match st with | .Break _ => true | _ => false)
  | .cnt, _, st => (match st with | .Continue _ => true | _ => false)
  | .fz _, _, _ => false
  | .kill _, _, _ => false
  | .try_ body hs, sc, st => (match st with
    | .Try b (h :: hds) [] [] _ => chkSs N body sc b && chkHs N hs sc (h :: hds)
    | _ => false)
def chkSs (N : List Str) : List S → Scope → List Stmt → Bool
  | [], _, sts => sts.isEmpty
  | .fz _ :: ss, sc, sts => chkSs N ss sc sts
  | .kill _ :: ss, sc, sts => chkSs N ss sc sts
  | s :: ss, sc, sts => (match sts with
    | st :: r => chkS N s sc st && chkSs N ss sc r
    | [] => false)
def chkHs (N : List Str) : Hs → Scope → List ExceptHandler → Bool
  | .nil, _, hds => hds.isEmpty
  | .cons one cs _ nm suite r, sc, hds => (match hds with
    | .ExceptHandler (some tx) n (b :: bs) _ :: rest => testB one cs sc tx && (nmB N sc nm n && (chkSs N suite sc (b :: bs) && chkHs N r sc rest))
    | _ => false)
end
end DV
namespace DV
open PySem PySem.Spec PyProof.Rows L2
/-- where statements run -/
structure SXOK (X : Cx) : Prop extends XOK X where
  own : PassesOwn (model X.prog X.w) X.A X.env X.xe
  okT : OkT X (locB X.env.scope)
  kind : X.env.scope.kind = .function
  stk : X.stack = X.env :: X.outer
  frm : X.env.frame = some X.env.locals
  ex0 : X.ex = []
def Keeps (asn : List Nat) (σ σ' : St) : Prop := σ'.length = σ.length ∧ ∀ i, i ∉ asn → σ'[i]? = σ[i]?
theorem Keeps.refl (asn : List Nat) (σ : St) : Keeps asn σ σ := ⟨rfl, fun _ _ => rfl⟩
theorem Keeps.trans {asn : List Nat} {σ σ1 σ2 : St} (a : Keeps asn σ σ1) (b : Keeps asn σ1 σ2) : Keeps asn σ σ2 := ⟨b.1.trans a.1, fun i h => (b.2 i h).trans (a.2 i h)⟩
theorem Keeps.mono {asn asn2 : List Nat} {σ σ1 : St} (a : Keeps asn σ σ1) (h : ∀ i ∈ asn, i ∈ asn2) : Keeps asn2 σ σ1 := ⟨a.1, fun i hi => a.2 i fun z => hi (h i z)⟩
/-- the state behind a statement -/
structure After (g : Gl) (F H : Hp) (fp : Nat → List Addr) (asn : List Nat) (σ : St) (σ' : St) (ρ' : Ev) (F' H' : Hp) (fp' : Nat → List Addr) : Prop where
  s : Step F H (Own fp) F' H'
  S : SOK g F' H' σ' ρ' fp'
  n : ∀ a, Own fp' a → Own fp a ∨ H a = none
  k : Keeps asn σ σ'
def SPost (g : Gl) (F H : Hp) (fp : Nat → List Addr) (asn : List Nat) (σ : St) (D : Ends) (W : WX) (ρ' : Ev) : Fl → Prop
  | .nx => ∀ σ' F' H' fp', After g F H fp asn σ σ' ρ' F' H' fp' → D.nx σ' H'
  | .bk => ∀ σ' F' H' fp', After g F H fp asn σ σ' ρ' F' H' fp' → D.bk σ' H'
  | .ct => ∀ σ' F' H' fp', After g F H fp asn σ σ' ρ' F' H' fp' → D.ct σ' H'
  | .rt o => ∀ v σ' F' H' fp' fr, After g F H fp asn σ σ' ρ' F' H' fp' → RepO g F' H' o v fr → fr.Nodup → (∀ a ∈ fr, (Own fp a ∨ H a = none) ∧ ¬ Own fp' a) → D.rt v H'
  | .ex x => ∀ C d σ' F' H' fp', After g F H fp asn σ σ' ρ' F' H' fp' → RepX g F' x C d → W C d σ' H'
def SoundS (X : Cx) (W : WX) (st : Stmt) (asn : List Nat) (ev : Ev → Option (Fl × Ev)) : Prop := ∀ σ ρ F H fp fl ρ' D, SOK (gl X) F H σ ρ fp → ev ρ = some (fl, ρ') → SPost (gl X) F H fp asn σ D W ρ' fl → WPS X st D σ H
def SoundSs (X : Cx) (W : WX) (sts : List Stmt) (asn : List Nat) (ev : Ev → Option (Fl × Ev)) : Prop := ∀ σ ρ F H fp fl ρ' D, SOK (gl X) F H σ ρ fp → ev ρ = some (fl, ρ') → SPost (gl X) F H fp asn σ D W ρ' fl → WPSs X sts D σ H
theorem After.after {g : Gl} {F H F1 H1 : Hp} {fp fp1 : Nat → List Addr} {asn asn1 : List Nat} {σ σ1 σ' : St} {ρ1 ρ' : Ev} {F' H' : Hp} {fp' : Nat → List Addr} (a : After g F H fp asn σ σ1 ρ1 F1 H1 fp1) (b : After g F1 H1 fp1 asn1 σ1 σ' ρ' F' H' fp') (h : ∀ i ∈ asn1, i ∈ asn) : After g F H fp asn σ σ' ρ' F' H' fp' :=
  ⟨a.s.trans b.s a.n, b.S, own_trans a.s a.n b.n, a.k.trans (b.k.mono h)⟩
theorem SPost.after {g : Gl} {F H F1 H1 : Hp} {fp fp1 : Nat → List Addr} {asn asn1 : List Nat} {σ σ1 : St} {ρ1 ρ' : Ev} {D : Ends} {W : WX} {fl : Fl} (a : After g F H fp asn σ σ1 ρ1 F1 H1 fp1) (h : ∀ i ∈ asn1, i ∈ asn) (q : SPost g F H fp asn σ D W ρ' fl) : SPost g F1 H1 fp1 asn1 σ1 D W ρ' fl := by
  cases fl with
  | nx => exact fun σ' F' H' fp' b => q σ' F' H' fp' (a.after b h)
  | bk => exact fun σ' F' H' fp' b => q σ' F' H' fp' (a.after b h)
  | ct => exact fun σ' F' H' fp' b => q σ' F' H' fp' (a.after b h)
  | rt o => exact fun v σ' F' H' fp' fr b r nd nf => q v σ' F' H' fp' fr (a.after b h) r nd fun c hc => ⟨own_trans a.s a.n (own2 := fun b => b ∈ fr) (fun b hb => (nf b hb).1) c hc, (nf c hc).2⟩
  | ex x => exact fun C d σ' F' H' fp' b r => q C d σ' F' H' fp' (a.after b h) r
section
variable {X : Cx} {W : WX} {asn : List Nat}
theorem soundSs_nil : SoundSs X W [] asn (fun ρ => some (.nx, ρ)) := fun σ ρ F H fp fl ρ' D S e q => by
  cases e
  exact wpss_of pss_nil (q σ F H fp ⟨Step.refl S.sub, S, fun _ h => .inl h, Keeps.refl _ _⟩)
theorem soundSs_cons {st : Stmt} {sts : List Stmt} {n : Nat} {s : S} {ss : List S} (h1 : SoundS X W st (asS s) (evS n s)) (h2 : SoundSs X W sts (asSs ss) (evSs n ss)) : SoundSs X W (st :: sts) (asSs (s :: ss)) (evSs n (s :: ss)) := fun σ ρ F H fp fl ρ' D S e q => by
  have m1 : ∀ i ∈ asS s, i ∈ asSs (s :: ss) := fun i h => by unfold asSs; exact List.mem_append_left _ h
  have m2 : ∀ i ∈ asSs ss, i ∈ asSs (s :: ss) := fun i h => by rw [asSs.eq_def]; exact List.mem_append_right _ h
  simp only [evSs] at e
  refine wpss_of (pss_cons ps_wp pss_wp) ?_
  split at e
  · rename_i ρ1 e1
    exact h1 σ ρ F H fp .nx ρ1 _ S e1 fun σ1 F1 H1 fp1 a => h2 σ1 ρ1 F1 H1 fp1 fl ρ' D a.S e (SPost.after ⟨a.s, a.S, a.n, a.k.mono m1⟩ m2 q)
  · rename_i ρ1 e1
    cases e
    exact h1 σ ρ F H fp .bk ρ' _ S e1 fun σ1 F1 H1 fp1 a => q σ1 F1 H1 fp1 ⟨a.s, a.S, a.n, a.k.mono m1⟩
  · rename_i ρ1 e1
    cases e
    exact h1 σ ρ F H fp .ct ρ' _ S e1 fun σ1 F1 H1 fp1 a => q σ1 F1 H1 fp1 ⟨a.s, a.S, a.n, a.k.mono m1⟩
  · rename_i o ρ1 e1
    cases e
    exact h1 σ ρ F H fp (.rt o) ρ' _ S e1 fun v σ1 F1 H1 fp1 fr a => q v σ1 F1 H1 fp1 fr ⟨a.s, a.S, a.n, a.k.mono m1⟩
  · rename_i x ρ1 e1
    cases e
    exact h1 σ ρ F H fp (.ex x) ρ' _ S e1 fun C d σ1 F1 H1 fp1 a => q C d σ1 F1 H1 fp1 ⟨a.s, a.S, a.n, a.k.mono m1⟩
  · cases e
/-- a ghost's step -/
theorem soundSs_fz {sts : List Stmt} {n : Nat} {i : Nat} {ss : List S} (h2 : SoundSs X W sts (asSs ss) (evSs n ss)) : SoundSs X W sts (asSs (.fz i :: ss)) (evSs n (.fz i :: ss)) := fun σ ρ F H fp fl ρ' D S e q => by
  have m2 : ∀ j ∈ asSs ss, j ∈ asSs (.fz i :: ss) := fun i h => by rw [asSs.eq_def]; exact List.mem_append_right _ h
  rw [evSs] at e
  simp only [evS] at e
  split at e
  · rename_i ρ1 e1
    split at e1
    · rename_i o e0
      cases e1
      obtain ⟨v, hv, rv⟩ := S.at_ i o e0
      have hi : i < ρ.length := (List.getElem?_eq_some_iff.mp e0).1
      have sF : Step F H (fun a => a ∈ fp i) (frzF F H (fp i)) H := Step.freeze S.sub (fun a ha => (rv.own a ha).1) fun a ha => ha
      have S1 : SOK (gl X) (frzF F H (fp i)) H σ (ρ.set i none) (fun j => if j = i then [] else fp j) := (S.hide i).stay sF fun a ha hf => S.hide_no hf ha
      have S2 := S1.put (i := i) (o := .p o.frz) (v := v) (fr := []) (by rw [List.length_set]; exact hi) hv (by unfold RepO; exact ⟨rv.freeze S.sub, rfl⟩) List.nodup_nil (by simp)
      rw [List.set_set] at S2
      have a : After (gl X) F H fp (asSs (.fz i :: ss)) σ σ (ρ.set i (some (.p o.frz))) (frzF F H (fp i)) H _ := ⟨⟨sF.mono, sF.sub, fun _ _ e _ => e, fun a u e => (sF.newF a u e).elim .inl fun z => z.elim (fun z => .inr (.inl z)) fun z => .inr (.inr ⟨i, z⟩)⟩, S2, fun a ⟨j, hj⟩ => by
        dsimp only at hj
        by_cases ej : j = i
        · rw [if_pos ej] at hj; exact absurd hj (by simp)
        · rw [if_neg ej, if_neg ej] at hj; exact .inl ⟨j, hj⟩, Keeps.refl _ _⟩
      exact h2 σ _ _ H _ fl ρ' D S2 e (SPost.after a m2 q)
    · cases e1
  all_goals (rename_i e1; split at e1 <;> (try cases e1) <;> (try cases e))
theorem soundSs_kill {sts : List Stmt} {n : Nat} {is : List Nat} {ss : List S} (h2 : SoundSs X W sts (asSs ss) (evSs n ss)) : SoundSs X W sts (asSs (.kill is :: ss)) (evSs n (.kill is :: ss)) := fun σ ρ F H fp fl ρ' D S e q => by
  have m2 : ∀ j ∈ asSs ss, j ∈ asSs (.kill is :: ss) := fun i h => by rw [asSs.eq_def]; exact List.mem_append_right _ h
  rw [evSs] at e
  simp only [evS] at e
  have S1 := S.hideAll is
  exact h2 σ _ F H _ fl ρ' D S1 e (SPost.after ⟨Step.refl S.sub, S1, fun a h => .inl (own_hideAll _ h), Keeps.refl _ _⟩ m2 q)
theorem XPost.sp {g : Gl} {F H : Hp} {fp : Nat → List Addr} {σ : St} {D : Ends} {ρ' : Ev} {x : Ex} (q : SPost g F H fp asn σ D W ρ' (.ex x)) : XPost g F H σ fp ρ' x W := fun C d F' H' fp' s S n r => q C d σ F' H' fp' ⟨s, S, n, Keeps.refl _ _⟩ r
theorem swaps_of {y : Str} {py pos : Pos} {x : Expr} (hx : notLc x = true) : swapsWith x (some (.Name y py)) pos.line X.env = pure false := by
  cases x <;> first | rfl | cases hx
theorem stored {g : Gl} {F H : Hp} {σ : St} {ρ : Ev} {fp : Nat → List Addr} (S : SOK g F H σ ρ fp) {i : Nat} {o : O} {v : V} {fr : List Addr} (hi : i < ρ.length) (r : RepO g F H o v fr) (nd : fr.Nodup) (nf : ∀ a ∈ fr, ¬ Own fp a) :
    ∃ fp', SOK g F H (σ.set i (some v)) (ρ.set i (some o)) fp' ∧ (∀ a, Own fp' a → Own fp a ∨ a ∈ fr) ∧ Keeps [i] σ (σ.set i (some v)) := by
  refine ⟨_, S.store hi r nd nf, fun a ⟨j, hj⟩ => ?_, by rw [List.length_set], fun j hj => List.getElem?_set_ne fun e => hj (by rw [e]; exact List.mem_cons_self)⟩
  dsimp only at hj
  by_cases ej : j = i
  · rw [if_pos ej] at hj; exact .inr hj
  · rw [if_neg ej] at hj; exact .inl ⟨j, hj⟩
theorem sound_ret {n : Nat} {e : E} {x : Expr} {pos : Pos} (h : SoundE X W x (evE e)) : SoundS X W (.Return (some x) pos) [] (evS n (.ret e)) := fun σ ρ F H fp fl ρ' D S ev q => by
  simp only [evS] at ev
  refine wps_of (ps_ret pe_wp) ?_
  cases he : evE e ρ with
  | none => rw [he] at ev; cases ev
  | some r =>
    obtain ⟨r, ρ1⟩ := r
    rw [he] at ev
    cases r with
    | ok o =>
      cases ev
      exact h σ ρ F H fp (.ok o) ρ' D.rt S he fun v F' H' fp' fr s S' n rv nd nf => q v σ F' H' fp' fr ⟨s, S', n, Keeps.refl _ _⟩ rv nd nf
    | ex z =>
      cases ev
      exact h σ ρ F H fp (.ex z) ρ' D.rt S he (XPost.sp q)
theorem sound_drop {n : Nat} {e : E} {x : Expr} {pos : Pos} (hx : notLc x = true) (h : SoundE X W x (evE e)) : SoundS X W (.Expr x pos) [] (evS n (.ex e)) := fun σ ρ F H fp fl ρ' D S ev q => by
  simp only [evS] at ev
  refine wps_of (ps_expr pe_wp (by cases x <;> first | rfl | cases hx)) ?_
  cases he : evE e ρ with
  | none => rw [he] at ev; cases ev
  | some r =>
    obtain ⟨r, ρ1⟩ := r
    rw [he] at ev
    cases r with
    | ok o =>
      cases ev
      exact h σ ρ F H fp (.ok o) ρ' _ S he fun v F' H' fp' fr s S' n rv nd nf => q σ F' H' fp' ⟨s, S', n, Keeps.refl _ _⟩
    | ex z =>
      cases ev
      exact h σ ρ F H fp (.ex z) ρ' _ S he (XPost.sp q)
/-- what is stored in a slot -/
theorem asg_post {i : Nat} {σ : St} {F H : Hp} {fp : Nat → List Addr} {r : R O} {ρ1 ρ' : Ev} {fl : Fl} {D : Ends} (ev : stO i (some (r, ρ1)) = some (fl, ρ')) (q : SPost (gl X) F H fp [i] σ D W ρ' fl) : RPost (gl X) F H σ fp W (fun v H1 => D.nx (σ.set i (some v)) H1) ρ1 r := by
  cases r with
  | ok o =>
    simp only [stO] at ev
    split at ev
    · cases ev
      intro v F' H' fp' fr s S' n rv nd nf
      obtain ⟨fp2, S2, n2, k2⟩ := stored S' ‹_› rv nd fun a ha => (nf a ha).2
      exact q _ F' H' fp2 ⟨s, S2, fun a ha => (n2 a ha).elim (n a) fun z => (nf a z).1, k2⟩
    · cases ev
  | ex z =>
    cases ev
    exact XPost.sp q
theorem sound_asg {n i : Nat} {e : E} {x : Expr} {y : Str} {py pos : Pos} (B : SXOK X) (hy : X.N[i]? = some y) (hl : locB X.env.scope y = true) (hx : notLc x = true) (h : SoundE X W x (evE e)) : SoundS X W (.Assign [.Name y py] x pos) [i] (evS n (.asg i e)) := fun σ ρ F H fp fl ρ' D S ev q => by
  simp only [evS] at ev
  obtain ⟨h1, h2⟩ := B.okT y hl
  refine wps_of (ps_set B.nd hy h1 pe_wp (swaps_of hx) h2) ?_
  cases he : evE e ρ with
  | none => rw [he] at ev; cases ev
  | some r =>
    obtain ⟨r, ρ1⟩ := r
    rw [he] at ev
    exact h σ ρ F H fp r ρ1 _ S he (asg_post ev q)
theorem swaps_cell {X : Cx} {y : Str} {py p : Pos} {l : Nat} {el : Expr} {gs : List Comprehension} {sp : Scope} (h : X.env.scope.names.lookup y = some .cell) : swapsWith (.ListComp el gs sp p) (some (.Name y py)) l X.env = pure false := by
  have e : X.env.kindOf y = some .cell := h
  show (pure (X.env.blockKind == .function && X.env.kindOf y == some .local && py.line == p.line && !(sp.names.any fun (n, k) => n == y && (k == .local || k == .cell))) : Sem Bool) = pure false
  rw [e]
  have e2 : ((some NameKind.cell : Option NameKind) == some .local) = false := by decide
  rw [e2, Bool.and_false, Bool.false_and, Bool.false_and]
theorem sound_asgC {n i : Nat} {e : E} {x : Expr} {y : Str} {py pos : Pos} (B : SXOK X) (hy : X.N[i]? = some y) (hl : locB X.env.scope y = true) (hx : swapsWith x (some (.Name y py)) pos.line X.env = pure false) (h : SoundE X W x (evE e)) : SoundS X W (.Assign [.Name y py] x pos) [i] (evS n (.asg i e)) := fun σ ρ F H fp fl ρ' D S ev q => by
  simp only [evS] at ev
  obtain ⟨h1, h2⟩ := B.okT y hl
  refine wps_of (ps_set B.nd hy h1 pe_wp hx h2) ?_
  cases he : evE e ρ with
  | none => rw [he] at ev; cases ev
  | some r =>
    obtain ⟨r, ρ1⟩ := r
    rw [he] at ev
    exact h σ ρ F H fp r ρ1 _ S he (asg_post ev q)
theorem sound_asgLc {n i : Nat} {g : Tg} {k : ItK} {src cs : List E} {elt : E} {x : Expr} {y : Str} {py pos : Pos} (B : SXOK X) (tk : Takes X W) (hc : CallsE (gx X) (.lc g k src cs elt)) (hy : X.N[i]? = some y) (hx : chkE X.N (.lc g k src cs elt) X.env.scope x = true) (hnc : ¬ X.env.scope.names.lookup y = some .cell) (hs : swB X.env.scope y py x = true) : SoundS X W (.Assign [.Name y py] x pos) [i] (evS n (.asg i (.lc g k src cs elt))) := fun σ ρ F H fp fl ρ' D S ev q => by
  rw [evS] at ev
  simp only [chkE] at hx
  split at hx
  · rename_i el tg it ifs scope lpos
    split at hx
    · rename_i own xs e1 e2
      simp only [Bool.and_eq_true, decide_eq_true_eq] at hx
      obtain ⟨h1, h2, h3, h4, h5⟩ := hx
      simp only [CallsE] at hc
      simp only [swB, Bool.or_eq_true, Bool.and_eq_true, decide_eq_true_eq, Bool.not_eq_true'] at hs
      obtain ⟨s1, s2, s3⟩ := hs.resolve_left hnc
      have B' := B.toXOK
      cases he : evE (.lc g k src cs elt) ρ with
      | none => rw [he] at ev; cases ev
      | some r =>
        obtain ⟨r, ρ1⟩ := r
        rw [he] at ev
        exact wps_setLc B' hc.1 hc.2.1 e1 e2 (soundOs src B' tk hc.2.2.1 h1) h2 (fun s H C cl fp => soundTs cs (W := WF) (B'.blk s H _ C cl fp) (takes_blk s H _ C cl fp) hc.2.2.2.1 h3 h5) h5 (fun s H C cl fp => soundE elt (B'.blk s H _ C cl fp) (takes_blk s H _ C cl fp) hc.2.2.2.2 h4) hy s1 B.kind s2 s3 S he (asg_post ev q)
    · cases hx
  · cases hx
end
end DV
namespace DV
open PySem PySem.Spec PyProof.Rows L2
section
variable {X : Cx} {W : WX} {asn : List Nat}
theorem sOs_one {e : E} {x : Expr} (h : SoundOs X W [x] (evOs [e])) {σ : St} {ρ : Ev} {F H : Hp} {fp : Nat → List Addr} {r : R (List Opd)} {ρ' : Ev} {Q : List V → Hp → Prop} (S : SOK (gl X) F H σ ρ fp) (he : evOs [e] ρ = some (r, ρ')) (q : ROs (gl X) F H σ fp W Q ρ' r) : WPE X x σ H fun v H1 => Q [v] H1 :=
  h σ ρ F H fp r ρ' Q S he q
theorem pg_any {es : List Expr} {k : Nat} {t : TGs} {n : Nat} {pos : Pos} (hc : X.calm = true) (h : PGs X es t) (hn : (assignEach es X.env).length = n) (hst : (assignEach es X.env).findIdx? (·.1) = none) : PG X (.Tuple es k pos) (fun v σ H Q => gTup X.K n t v σ H Q ∨ gUnl X.K n t v σ H Q) :=
  ⟨fun pins s σ H v u Q I r q => by
    rcases q with q | q
    · exact (pg_tup hc h hn hst).run pins s σ H v u Q I r q
    · exact (pg_unl hc h hn hst).run pins s σ H v u Q I r q⟩
theorem sole_tup {ts : List Expr} {k : Nat} {p : Pos} {x : Expr} {l : Nat} : swapsWithSole [.Tuple ts k p] x l X.env = pure false := by
  cases x <;> rfl
theorem sw_tup {ts : List Expr} {k : Nat} {p : Pos} {x : Expr} (h : notTup x = true) : swappedStores [.Tuple ts k p] x X.env = pure none := by
  cases x <;> first | rfl | cases h
theorem sound_asgT {n : Nat} {is : List Nat} {e : E} {ts : List Expr} {k : Nat} {p pos : Pos} {x : Expr} (B : SXOK X) (hcl : X.calm = true) (ht : (tgNames X.N (locB X.env.scope) (.tup is) (.Tuple ts k p)).isSome = true) (hx : notTup x = true) (h : SoundOs X W [x] (evOs [e])) :
    SoundS X W (.Assign [.Tuple ts k p] x pos) is (evS n (.asgT is e)) := fun σ ρ F H fp fl ρ' D S ev q => by
  obtain ⟨l, hl⟩ := Option.isSome_iff_exists.mp ht
  obtain ⟨k1, k2, k3⟩ := tgMany_ok B.toXOK B.okT (show tgMany X.N (locB X.env.scope) is ts = some l from hl)
  rw [evS] at ev
  refine wps_of (ps_asg pe_wp (pg_any hcl k1 k2 k3) sole_tup (sw_tup hx) rfl) ?_
  cases he : evOs [e] ρ with
  | none => rw [he] at ev; cases ev
  | some r =>
    obtain ⟨r, ρ1⟩ := r
    rw [he] at ev
    cases r with
    | ok qs =>
      simp only [tupT] at ev
      split at ev
      · rename_i o e2
        split at ev
        · rename_i ds e3
          split at ev
          · rename_i ρ2 e4
            cases ev
            refine sOs_one (Q := fun vs H1 => ∀ v, vs = [v] → gTup X.K is.length (gNames is) v σ H1 D.nx ∨ gUnl X.K is.length (gNames is) v σ H1 D.nx) h S he (fun vs F1 H1 fp1 s1 S1 n1 rs v hv => ?_) |> fun w => WPE.mono w fun v H1 z => z v rfl
            subst hv
            have rv := vws_rep S1 rs e2
            obtain ⟨o', as, eo, r1⟩ := rv.one
            cases eo
            obtain ⟨a, ws, rfl, h1, h2⟩ := items_rep S1.sub r1 e3
            obtain ⟨h3, h4⟩ := set_many (Q := D.nx) S1 e4 h2 fun σ2 Z => by
              obtain ⟨⟨fp2, S2, o2⟩, z2, l2⟩ := Z
              exact q σ2 F1 H1 fp2 ⟨s1, S2, fun a ha => n1 a (o2 a ha), by rw [← S2.len, ← S1.len, l2], fun i hi => (z2 i hi).1⟩
            rcases h1 with h1 | h1
            · exact .inr ⟨a, ws, rfl, h1, h3, h4⟩
            · exact .inl ⟨a, ws, rfl, h1, h3, h4⟩
          · cases ev
        · cases ev
      · cases ev
    | ex z =>
      cases ev
      exact (sOs_one (Q := fun _ _ => False) h S he (XPost.sp q)) |> fun w => WPE.mono w fun v H1 z => z.elim
/-- owned things stored, one behind another -/
theorem set_manyO {g : Gl} {F H : Hp} : ∀ {is : List Nat} {os : List O} {xs : List V} {σ : St} {ρ ρ2 : Ev} {fp : Nat → List Addr} {fr : List Addr} {Q : St → Hp → Prop}, SOK g F H σ ρ fp → setAllO is os ρ = some ρ2 → RepOs g F H os xs fr → fr.Nodup → (∀ a ∈ fr, ¬ Own fp a) →
    (∀ σ2 fp2, SOK g F H σ2 ρ2 fp2 → (∀ a, Own fp2 a → Own fp a ∨ a ∈ fr) → Keeps is σ σ2 → Q σ2 H) → xs.length = is.length ∧ gNames is xs σ H Q
  | [], [], xs, σ, ρ, ρ2, fp, fr, Q, S, e, r, nd, nf, q => by
    cases e
    unfold RepOs at r
    obtain ⟨rfl, rfl⟩ := r
    exact ⟨rfl, rfl, q σ fp S (fun a h => .inl h) (Keeps.refl _ _)⟩
  | [], _ :: _, xs, σ, ρ, ρ2, fp, fr, Q, S, e, r, nd, nf, q => by cases e
  | _ :: _, [], xs, σ, ρ, ρ2, fp, fr, Q, S, e, r, nd, nf, q => by cases e
  | i :: is, o :: os, xs, σ, ρ, ρ2, fp, fr, Q, S, e, r, nd, nf, q => by
    unfold setAllO at e
    split at e
    · rename_i hi
      unfold RepOs at r
      obtain ⟨v, w, a1, a2, rfl, rfl, r1, r2⟩ := r
      obtain ⟨d1, d2, d3⟩ := List.nodup_append.mp nd
      obtain ⟨fp1, S1, n1, k1⟩ := stored S (v := v) hi r1 d1 fun a ha => nf a (List.mem_append_left _ ha)
      obtain ⟨h1, h2⟩ := set_manyO (Q := Q) S1 e r2 d2 (fun a ha z => by
        rcases n1 a z with z | z
        · exact nf a (List.mem_append_right _ ha) z
        · exact d3 a z a ha rfl) fun σ2 fp2 S2 n2 k2 => q σ2 fp2 S2 (fun a ha => by
          rcases n2 a ha with z | z
          · exact (n1 a z).elim .inl fun z => .inr (List.mem_append_left _ z)
          · exact .inr (List.mem_append_right _ z)) ((k1.mono fun j hj => by rw [List.mem_singleton.mp hj]; exact List.mem_cons_self).trans (k2.mono fun j hj => List.mem_cons_of_mem _ hj))
      exact ⟨by rw [List.length_cons, List.length_cons, h1], v, w, rfl, h2⟩
    · cases e
theorem sound_asgO {n : Nat} {is : List Nat} {e : E} {ts : List Expr} {k : Nat} {p pos : Pos} {x : Expr} (B : SXOK X) (hcl : X.calm = true) (ht : (tgNames X.N (locB X.env.scope) (.tup is) (.Tuple ts k p)).isSome = true) (hx : notTup x = true) (h : SoundE X W x (evE e)) :
    SoundS X W (.Assign [.Tuple ts k p] x pos) is (evS n (.asgO is e)) := fun σ ρ F H fp fl ρ' D S ev q => by
  obtain ⟨l, hl⟩ := Option.isSome_iff_exists.mp ht
  obtain ⟨k1, k2, k3⟩ := tgMany_ok B.toXOK B.okT (show tgMany X.N (locB X.env.scope) is ts = some l from hl)
  rw [evS] at ev
  refine wps_of (ps_asg pe_wp (pg_any hcl k1 k2 k3) sole_tup (sw_tup hx) rfl) ?_
  cases he : evE e ρ with
  | none => rw [he] at ev; cases ev
  | some r =>
    obtain ⟨r, ρ1⟩ := r
    rw [he] at ev
    unfold tupO at ev
    split at ev
    · rename_i os ρ3 e0
      cases e0
      split at ev
      · rename_i ρ2 e4
        cases ev
        refine h σ ρ F H fp (.ok (.ot os)) ρ1 _ S he fun v F1 H1 fp1 fr s1 S1 n1 rv nd nf => ?_
        unfold RepO at rv
        obtain ⟨a, ws, rfl, h1, h2⟩ := rv
        obtain ⟨h3, h4⟩ := set_manyO (Q := D.nx) S1 e4 h2 nd (fun a ha => (nf a ha).2) fun σ2 fp2 S2 n2 k2 => q σ2 F1 H1 fp2 ⟨s1, S2, fun a ha => (n2 a ha).elim (n1 a) fun z => (nf a z).1, k2⟩
        exact .inl ⟨a, ws, rfl, S1.sub.sqT h1, h3, h4⟩
      · cases ev
    · rename_i z ρ3 e0
      cases e0
      cases ev
      exact h σ ρ F H fp (.ex z) _ _ S he (XPost.sp q)
    · cases ev
/-- an owned list written -/
theorem lst_write {g : Gl} {F H : Hp} {σ : St} {ρ : Ev} {fp : Nat → List Addr} {i : Nat} {ds ds' : List D} {vs vs' : List V} {a : Addr} (S : SOK g F H σ ρ fp) (hi : ρ[i]? = some (some (.lst ds))) (hv : σ[i]? = some (some (.ref a))) (hH : H a = some (.lst vs)) (hfp : fp i = [a]) (hF : F a = none) (r : RepDs g F ds' vs') :
    Step F H (Own fp) F (upd H a (.lst vs')) ∧ ∃ fp', SOK g F (upd H a (.lst vs')) σ (ρ.set i (some (.lst ds'))) fp' ∧ ∀ b, Own fp' b → Own fp b := by
  have oa : Own fp a := ⟨i, by rw [hfp]; exact List.mem_cons_self⟩
  have s : Step F H (fun b => b = a) F (upd H a (.lst vs')) := ⟨Sub.refl F, fun b u e => by
    rw [upd_ne (fun z => by rw [z, hF] at e; cases e)]
    exact S.sub b u e, fun b u e n => by rw [upd_ne n]; exact e, fun b u e => .inl e⟩
  have S1 := (S.hide i).stay s fun b hb z => S.hide_no (i := i) (by rw [hfp, z]; exact List.mem_cons_self) hb
  have S2 := S1.put (i := i) (o := .lst ds') (v := .ref a) (fr := [a]) (by rw [List.length_set]; exact (List.getElem?_eq_some_iff.mp hi).1) hv (by unfold RepO; exact ⟨a, vs', rfl, rfl, hF, upd_same, r⟩) (by simp) (fun b hb j hj z => by
    have eb : b = a := by simpa using hb
    subst eb
    rw [if_neg hj] at z
    exact hj (S.dj j i b z (by rw [hfp]; exact List.mem_cons_self)))
  rw [List.set_set] at S2
  refine ⟨⟨s.mono, s.sub, fun b u e n => s.keep b u e fun z => n (by rw [z]; exact oa), fun b u e => .inl e⟩, _, S2, fun b ⟨j, hj⟩ => ?_⟩
  dsimp only at hj
  by_cases ej : j = i
  · rw [if_pos ej] at hj
    have eb : b = a := by simpa using hj
    rw [eb]; exact oa
  · rw [if_neg ej, if_neg ej] at hj
    exact ⟨j, hj⟩
theorem lst_slot {g : Gl} {F H : Hp} {σ : St} {ρ : Ev} {fp : Nat → List Addr} {i : Nat} {ds : List D} (S : SOK g F H σ ρ fp) (hi : ρ[i]? = some (some (.lst ds))) : ∃ a vs, σ[i]? = some (some (.ref a)) ∧ H a = some (.lst vs) ∧ fp i = [a] ∧ F a = none ∧ RepDs g F ds vs := by
  obtain ⟨v, hv, r⟩ := S.at_ i _ hi
  unfold RepO at r
  obtain ⟨a, vs, rfl, h1, h2, h3, h4⟩ := r
  exact ⟨a, vs, hv, h3, h1, h2, h4⟩
theorem RepDs.set {g : Gl} {F : Hp} {d : D} {v : V} (r : RepD g F d v) : ∀ {ds : List D} {vs : List V} (k : Nat), RepDs g F ds vs → RepDs g F (ds.set k d) (vs.set k v)
  | [], vs, k, h => by
    unfold RepDs at h
    subst h
    show RepDs g F [] []
    unfold RepDs
    rfl
  | c :: ds, vs, 0, h => by
    unfold RepDs at h
    obtain ⟨w, t, rfl, h1, h2⟩ := h
    show RepDs g F (d :: ds) (v :: t)
    unfold RepDs
    exact ⟨v, t, rfl, r, h2⟩
  | c :: ds, vs, k + 1, h => by
    unfold RepDs at h
    obtain ⟨w, t, rfl, h1, h2⟩ := h
    show RepDs g F (c :: ds.set k d) (w :: t.set k v)
    unfold RepDs
    exact ⟨w, _, rfl, h1, RepDs.set r k h2⟩
theorem name_val {i : Nat} {o : Expr} (h : nameB X.N X.env.scope i o = true) : (∀ l, attributeBase o l X.env (eval o X.env) = eval o X.env) := by
  obtain ⟨n, pos, rfl, _⟩ := name_of h
  exact fun l => rfl
theorem sound_seti {n i : Nat} {k v : E} {o ix x : Expr} {sp pos : Pos} (hn : nameB X.N X.env.scope i o = true) (hns : notSlice ix = true) (hk : SoundE X W ix (evE k)) (hv : SoundE X W x (evE v)) : SoundS X W (.Assign [.Subscript o ix sp] x pos) [] (evS n (.seti i k v)) := fun σ ρ F H fp fl ρ' D S ev q => by
  rw [evS] at ev
  refine wps_of (ps_asg pe_wp (pg_sub (pe_name hn) pe_wp set_list (by
    obtain ⟨m, mp, rfl, _⟩ := name_of hn
    intro _
    cases ix <;> first | rfl | cases hns)) (by cases x <;> rfl) (by cases x <;> rfl) rfl) ?_
  split at ev
  · rename_i d ρ1 e1
    split at ev
    · rename_i ds0 e0
      refine hv σ ρ F H fp _ ρ1 _ S e1 fun v1 F1 H1 fp1 fr1 s1 S1 n1 rv1 nd1 nf1 => ?_
      have rd := repO_p rv1
      obtain ⟨a, vs0, hσ, _⟩ := lst_slot S1 e0
      refine ⟨.ref a, hσ, ?_⟩
      cases hk2 : evE k ρ1 with
      | none => rw [hk2] at ev; cases ev
      | some r =>
        obtain ⟨r, ρ2⟩ := r
        rw [hk2] at ev
        unfold setO at ev
        split at ev
        · rename_i j ρ3 e3
          cases e3
          split at ev
          · rename_i ds e4
            split at ev
            · rename_i jj e5
              cases ev
              refine hk σ ρ1 F1 H1 fp1 _ ρ2 _ S1 hk2 fun v2 F2 H2 fp2 fr2 s2 S2 n2 rv2 nd2 nf2 => ?_
              obtain ⟨a', vs, hσ', hH, hfp, hF, rds⟩ := lst_slot S2 e4
              rw [hσ] at hσ'
              cases hσ'
              obtain ⟨s3, fp3, S3, n3⟩ := lst_write S2 e4 hσ hH hfp hF (rds.set (rd.mono s2.mono) jj)
              refine ⟨a, vs, j, jj, rfl, (repO_p rv2).int', hH, by rw [← rds.length]; exact e5, ?_⟩
              exact q σ F2 _ fp3 ⟨(s1.trans s2 n1).trans s3 (own_trans s1 n1 n2), S3, fun b hb => own_trans s1 n1 n2 b (n3 b hb), Keeps.refl _ _⟩
            · cases ev
          · cases ev
        · rename_i z ρ3 e3
          cases e3
          cases ev
          exact hk σ ρ1 F1 H1 fp1 _ _ _ S1 hk2 (XPost.after s1 n1 (XPost.sp q))
        · cases ev
    · cases ev
  · rename_i z ρ1 e1
    cases ev
    exact hv σ ρ F H fp _ ρ' _ S e1 (XPost.sp q)
  · cases ev
theorem sound_app {n i : Nat} {e : E} {o x : Expr} {ap cp pos : Pos} (hn : nameB X.N X.env.scope i o = true) (hs : notStar x = true) (hl : (ap.endLine == cp.line) = true) (h : SoundE X W x (evE e)) : SoundS X W (.Expr (.Call (.Attribute o "append" ap) [x] [] cp) pos) [] (evS n (.app i e)) := fun σ ρ F H fp fl ρ' D S ev q => by
  rw [evS] at ev
  refine wps_of (ps_expr (pe_bm PySem.F.plainAttrs_list PySem.F.slot_list_append PySem.F.type_list_append mt_append (pe_name hn) (pa_wp1 hs) (name_val hn _) (by rw [starEach_cons hs]; rfl) hl (starEach_cons hs) rfl) rfl) ?_
  split at ev
  · rename_i ds0 e0
    obtain ⟨a, vs0, hσ, hH0, _⟩ := lst_slot S e0
    refine ⟨.ref a, hσ, .inl ⟨rfl, vs0, .inl (.inl hH0)⟩, ?_⟩
    cases he : evE e ρ with
    | none => rw [he] at ev; cases ev
    | some r =>
      obtain ⟨r, ρ1⟩ := r
      rw [he] at ev
      cases r with
      | ok p =>
        simp only [appO] at ev
        split at ev
        · rename_i ds e1
          split at ev
          · rename_i d
            split at ev
            · rename_i hz
              cases ev
              refine h σ ρ F H fp _ ρ1 _ S he fun v F1 H1 fp1 fr1 s1 S1 n1 rv nd nf => ?_
              obtain ⟨a', vs, hσ', hH, hfp, hF, rds⟩ := lst_slot S1 e1
              rw [hσ] at hσ'
              cases hσ'
              have r1 : RepDs (gl X) F1 (ds ++ [d]) (vs ++ [v]) := RepDs.append rds (by unfold RepDs RepDs; exact ⟨v, [], rfl, repO_p rv, rfl⟩)
              obtain ⟨s3, fp3, S3, n3⟩ := lst_write S1 e1 hσ hH hfp hF r1
              exact ⟨a, vs, v, rfl, rfl, hH, by rw [← rds.length]; exact hz, q σ F1 _ fp3 ⟨s1.trans s3 n1, S3, fun b hb => n1 b (n3 b hb), Keeps.refl _ _⟩⟩
            · cases ev
          · cases ev
        · cases ev
      | ex z =>
        cases ev
        exact h σ ρ F H fp _ _ _ S he (XPost.sp q)
  · cases ev
/-- a list of lists: one of them -/
theorem RepOs.at_ {g : Gl} {F H : Hp} : ∀ {os : List O} {vs : List V} {as : List Addr} {k : Nat} {ds : List D}, RepOs g F H os vs as → as.Nodup → os[k]? = some (.lst ds) →
    ∃ a ws, vs[k]? = some (.ref a) ∧ a ∈ as ∧ H a = some (.lst ws) ∧ F a = none ∧ RepDs g F ds ws ∧ ∀ ds' ws', RepDs g F ds' ws' → RepOs g F (upd H a (.lst ws')) (os.set k (.lst ds')) vs as
  | [], vs, as, k, ds, r, nd, e => by simp at e
  | o :: os, vs, as, 0, ds, r, nd, e => by
    have eo : o = .lst ds := by simpa using e
    subst eo
    unfold RepOs at r
    obtain ⟨v, w, a1, a2, rfl, rfl, r1, r2⟩ := r
    have r1' := r1
    unfold RepO at r1
    obtain ⟨a, ws, rfl, rfl, hF, hH, rd⟩ := r1
    obtain ⟨d1, d2, d3⟩ := List.nodup_append.mp nd
    refine ⟨a, ws, rfl, by simp, hH, hF, rd, fun ds' ws' rd' => ?_⟩
    show RepOs g F _ (.lst ds' :: os) _ _
    unfold RepOs
    refine ⟨.ref a, w, [a], a2, rfl, rfl, by unfold RepO; exact ⟨a, ws', rfl, rfl, hF, upd_same, rd'⟩, r2.mono (Sub.refl F) fun b hb => ⟨(r2.own b hb).1, fun u hu => ?_⟩⟩
    rw [upd_ne (fun z => d3 a (by simp) b hb z.symm)]
    exact hu
  | o :: os, vs, as, k + 1, ds, r, nd, e => by
    unfold RepOs at r
    obtain ⟨v, w, a1, a2, rfl, rfl, r1, r2⟩ := r
    obtain ⟨d1, d2, d3⟩ := List.nodup_append.mp nd
    obtain ⟨a, ws, h1, h2, h3, h4, h5, h6⟩ := RepOs.at_ (k := k) r2 d2 (by simpa using e)
    refine ⟨a, ws, by simpa using h1, List.mem_append_right _ h2, h3, h4, h5, fun ds' ws' rd' => ?_⟩
    show RepOs g F _ (o :: os.set k (.lst ds')) _ _
    unfold RepOs
    refine ⟨v, w, a1, a2, rfl, rfl, r1.mono (Sub.refl F) fun b hb => ⟨(r1.own b hb).1, fun u hu => ?_⟩, h6 ds' ws' rd'⟩
    rw [upd_ne (fun z => d3 b hb a h2 z)]
    exact hu
theorem sound_appin {n i : Nat} {k e : E} {o ix x : Expr} {sp ap cp pos : Pos} (hn : nameB X.N X.env.scope i o = true) (hns : notSlice ix = true) (hs : notStar x = true) (hl : (ap.endLine == cp.line) = true) (hk : SoundE X W ix (evE k)) (h : SoundE X W x (evE e)) :
    SoundS X W (.Expr (.Call (.Attribute (.Subscript o ix sp) "append" ap) [x] [] cp) pos) [] (evS n (.appin i k e)) := fun σ ρ F H fp fl ρ' D S ev q => by
  rw [evS] at ev
  refine wps_of (ps_expr (pe_bm PySem.F.plainAttrs_list PySem.F.slot_list_append PySem.F.type_list_append mt_append (pe_ix ix_list (pe_name hn) pe_wp (plainIx_of hns)) (pa_wp1 hs) rfl (by rw [starEach_cons hs]; rfl) hl (starEach_cons hs) rfl) rfl) ?_
  split at ev
  · rename_i os0 e00
    split at ev
    · rename_i j ρ1 e1
      split at ev
      · rename_i os e0
        cases he : evE e (ρ1.set i none) with
        | none => rw [he] at ev; cases ev
        | some r =>
          obtain ⟨r, ρ2⟩ := r
          rw [he] at ev
          cases r with
          | ex z => cases ev
          | ok p =>
            simp only [appinO] at ev
            split at ev
            · rename_i d
              split at ev
              · rename_i kk e2
                split at ev
                · rename_i ds e3
                  split at ev
                  · rename_i hz
                    cases ev
                    obtain ⟨v, hv, _⟩ := S.at_ i _ e00
                    refine ⟨v, hv, ?_⟩
                    refine hk σ ρ F H fp _ ρ1 _ S e1 fun v2 F2 H2 fp2 fr2 s2 S2 n2 rv2 nd2 nf2 => ?_
                    obtain ⟨v', hv', rO⟩ := S2.at_ i _ e0
                    rw [hv] at hv'
                    cases hv'
                    have nd := S2.nd i
                    have rO' := rO
                    unfold RepO at rO
                    obtain ⟨a, vs, bs, rfl, efp, fa, ha, rs⟩ := rO
                    rw [efp] at nd
                    obtain ⟨nab, ndb⟩ := List.nodup_cons.mp nd
                    obtain ⟨b, ws, hb, mb, hHb, fb, rdb, _⟩ := RepOs.at_ rs ndb e3
                    have lvs : os.length = vs.length := rs.length
                    have hat : L2.atI vs j = some (.ref b) := by
                      unfold L2.atI
                      rw [← lvs, e2]
                      exact hb
                    refine ⟨a, vs, j, .ref b, rfl, (repO_p rv2).int', .inl (.inl ha), hat, .inl ⟨rfl, ws, .inl (.inl hHb)⟩, ?_⟩
                    have Sh := S2.hide i
                    refine h σ (ρ1.set i none) F2 H2 _ _ ρ2 _ Sh he fun v3 F3 H3 fp3 fr3 s3 S3 n3 rv3 nd3 nf3 => ?_
                    have no : ∀ c ∈ fp2 i, ¬ Own (fun j => if j = i then [] else fp2 j) c := fun c hc => S2.hide_no hc
                    have rO3 := rO'.stay s3 no
                    have ka : H3 a = some (.lst vs) := s3.keep a _ ha (no a (by rw [efp]; exact List.mem_cons_self))
                    have kb : H3 b = some (.lst ws) := s3.keep b _ hHb (no b (by rw [efp]; exact List.mem_cons_of_mem _ mb))
                    unfold RepO at rO3
                    obtain ⟨a3, vs3, bs3, ea, efp3, fa3, ha3, rs3⟩ := rO3
                    cases ea
                    rw [ka] at ha3
                    cases ha3
                    rw [efp] at efp3
                    cases efp3
                    obtain ⟨b3, ws3, hb3, mb3, hHb3, fb3, rdb3, wr⟩ := RepOs.at_ rs3 ndb e3
                    rw [hb] at hb3
                    cases hb3
                    rw [kb] at hHb3
                    cases hHb3
                    have rd : RepDs (gl X) F3 (ds ++ [d]) (ws ++ [v3]) := RepDs.append rdb3 (by unfold RepDs RepDs; exact ⟨v3, [], rfl, repO_p rv3, rfl⟩)
                    have rs4 := wr _ _ rd
                    have nf3' : ∀ c ∈ fp2 i, ¬ Own fp3 c := fun c hc z => by
                      rcases n3 c z with z | z
                      · exact no c hc z
                      · obtain ⟨_, u, hu⟩ := S2.own ⟨i, hc⟩
                        rw [z] at hu; cases hu
                    have s4 : Step F3 H3 (fun c => c = b) F3 (upd H3 b (.lst (ws ++ [v3]))) := ⟨Sub.refl F3, fun c u e => by
                      rw [upd_ne (fun z => by rw [z, fb3] at e; cases e)]
                      exact S3.sub c u e, fun c u e n => by rw [upd_ne n]; exact e, fun c u e => .inl e⟩
                    have S4 := S3.stay s4 fun c hc z => nf3' b (by rw [efp]; exact List.mem_cons_of_mem _ mb) (by rw [← z]; exact hc)
                    have lρ : i < ρ2.length := by
                      have e1 := S3.len
                      have e2 := S2.len
                      have e3 := (List.getElem?_eq_some_iff.mp hv).1
                      omega
                    have S5 := S4.put (i := i) (o := .ol (os.set kk (.lst (ds ++ [d])))) (v := .ref a) (fr := fp2 i) lρ hv (by
                      unfold RepO
                      refine ⟨a, vs, bs, rfl, efp, fa3, ?_, rs4⟩
                      rw [upd_ne (fun z => nab (by rw [z]; exact mb))]
                      exact ka) (S2.nd i) (fun c hc j hj z => nf3' c hc ⟨j, z⟩)
                    refine ⟨b, ws, v3, rfl, rfl, kb, by rw [← rdb3.length]; exact hz, q σ F3 _ _ ⟨?_, S5, fun c ⟨j, hj⟩ => ?_, Keeps.refl _ _⟩⟩
                    · have t := s2.trans (own1 := Own fp2) (F2 := F3) (H2 := H3) ⟨s3.mono, s3.sub, fun c u e n => s3.keep c u e fun z => n (own_hide z), fun c u e => (s3.newF c u e).elim .inl fun z => z.elim (fun z => .inr (.inl z)) fun z => .inr (.inr (own_hide z))⟩ n2
                      refine ⟨t.mono, s4.sub, fun c u e n => ?_, t.newF⟩
                      have e' := t.keep c u e n
                      by_cases z : c = b
                      · subst z
                        rcases n2 c ⟨i, by rw [efp]; exact List.mem_cons_of_mem _ mb⟩ with z | z
                        · exact absurd z n
                        · rw [z] at e; cases e
                      · exact s4.keep c u e' z
                    · dsimp only at hj
                      by_cases ej : j = i
                      · rw [if_pos ej] at hj
                        exact n2 c ⟨i, hj⟩
                      · rw [if_neg ej] at hj
                        exact own_trans s2 n2 (own2 := Own fp3) (fun c z => (n3 c z).elim (fun z => .inl (own_hide z)) .inr) c ⟨j, hj⟩
                  · cases ev
                · cases ev
              · cases ev
            · cases ev
      · cases ev
    · cases ev
  · cases ev
theorem lend_at {e : E} {x : Expr} (h : SoundE X W x (evE e)) {σ : St} {ρ : Ev} {F H : Hp} {fp : Nat → List Addr} {i : Nat} {o : O} {ρ2 : Ev} {Q : VK} (S : SOK (gl X) F H σ ρ fp) (ev : lendC (ρ.set i none) (evE e (viewE ρ)) = some (.ok o, ρ2)) (q : EPost (gl X) F H σ (fun j => if j = i then [] else fp j) ρ2 o Q) : WPE X x σ H Q := by
  obtain ⟨d, ρ1, e1, hd, e2, rfl⟩ := lend_some ev
  cases e2
  refine h σ (viewE ρ) (frzF F H (owns σ fp)) H (fun _ => []) _ ρ1 _ (view_sok S) e1 fun v F1 H1 fp1 fr s1 S1 n1 rv nd nf => ?_
  have s2 := unF_step S.sub (owns_none S) s1
  refine q v (unF F1 (owns σ fp)) H1 _ [] s2.any ((S.hide i).stay s2 fun _ _ z => z) (fun a z => .inl z) ?_ List.nodup_nil (by simp)
  unfold RepO at rv ⊢
  exact ⟨flat_rep (unF_tup (owns_nt S) s1) hd rv.1, rfl⟩
theorem sound_appinV {n i : Nat} {k e : E} {o ix x : Expr} {sp ap cp pos : Pos} (hn : nameB X.N X.env.scope i o = true) (hns : notSlice ix = true) (hs : notStar x = true) (hl : (ap.endLine == cp.line) = true) (hk : SoundE X W ix (evE k)) (h : SoundE X W x (evE e)) :
    SoundS X W (.Expr (.Call (.Attribute (.Subscript o ix sp) "append" ap) [x] [] cp) pos) [] (evS n (.appinV i k e)) := fun σ ρ F H fp fl ρ' D S ev q => by
  rw [evS] at ev
  refine wps_of (ps_expr (pe_bm PySem.F.plainAttrs_list PySem.F.slot_list_append PySem.F.type_list_append mt_append (pe_ix ix_list (pe_name hn) pe_wp (plainIx_of hns)) (pa_wp1 hs) rfl (by rw [starEach_cons hs]; rfl) hl (starEach_cons hs) rfl) rfl) ?_
  split at ev
  · rename_i os0 e00
    split at ev
    · rename_i j ρ1 e1
      split at ev
      · rename_i os e0
        cases he : lendC (ρ1.set i none) (evE e (viewE ρ1)) with
        | none => rw [he] at ev; cases ev
        | some r =>
          obtain ⟨r, ρ2⟩ := r
          rw [he] at ev
          cases r with
          | ex z => cases ev
          | ok p =>
            simp only [appinO] at ev
            split at ev
            · rename_i d
              split at ev
              · rename_i kk e2
                split at ev
                · rename_i ds e3
                  split at ev
                  · rename_i hz
                    cases ev
                    obtain ⟨v, hv, _⟩ := S.at_ i _ e00
                    refine ⟨v, hv, ?_⟩
                    refine hk σ ρ F H fp _ ρ1 _ S e1 fun v2 F2 H2 fp2 fr2 s2 S2 n2 rv2 nd2 nf2 => ?_
                    obtain ⟨v', hv', rO⟩ := S2.at_ i _ e0
                    rw [hv] at hv'
                    cases hv'
                    have nd := S2.nd i
                    have rO' := rO
                    unfold RepO at rO
                    obtain ⟨a, vs, bs, rfl, efp, fa, ha, rs⟩ := rO
                    rw [efp] at nd
                    obtain ⟨nab, ndb⟩ := List.nodup_cons.mp nd
                    obtain ⟨b, ws, hb, mb, hHb, fb, rdb, _⟩ := RepOs.at_ rs ndb e3
                    have lvs : os.length = vs.length := rs.length
                    have hat : L2.atI vs j = some (.ref b) := by
                      unfold L2.atI
                      rw [← lvs, e2]
                      exact hb
                    refine ⟨a, vs, j, .ref b, rfl, (repO_p rv2).int', .inl (.inl ha), hat, .inl ⟨rfl, ws, .inl (.inl hHb)⟩, ?_⟩
                    have Sh := S2.hide i
                    refine lend_at h S2 he fun v3 F3 H3 fp3 fr3 s3 S3 n3 rv3 nd3 nf3 => ?_
                    have no : ∀ c ∈ fp2 i, ¬ Own (fun j => if j = i then [] else fp2 j) c := fun c hc => S2.hide_no hc
                    have rO3 := rO'.stay s3 no
                    have ka : H3 a = some (.lst vs) := s3.keep a _ ha (no a (by rw [efp]; exact List.mem_cons_self))
                    have kb : H3 b = some (.lst ws) := s3.keep b _ hHb (no b (by rw [efp]; exact List.mem_cons_of_mem _ mb))
                    unfold RepO at rO3
                    obtain ⟨a3, vs3, bs3, ea, efp3, fa3, ha3, rs3⟩ := rO3
                    cases ea
                    rw [ka] at ha3
                    cases ha3
                    rw [efp] at efp3
                    cases efp3
                    obtain ⟨b3, ws3, hb3, mb3, hHb3, fb3, rdb3, wr⟩ := RepOs.at_ rs3 ndb e3
                    rw [hb] at hb3
                    cases hb3
                    rw [kb] at hHb3
                    cases hHb3
                    have rd : RepDs (gl X) F3 (ds ++ [d]) (ws ++ [v3]) := RepDs.append rdb3 (by unfold RepDs RepDs; exact ⟨v3, [], rfl, repO_p rv3, rfl⟩)
                    have rs4 := wr _ _ rd
                    have nf3' : ∀ c ∈ fp2 i, ¬ Own fp3 c := fun c hc z => by
                      rcases n3 c z with z | z
                      · exact no c hc z
                      · obtain ⟨_, u, hu⟩ := S2.own ⟨i, hc⟩
                        rw [z] at hu; cases hu
                    have s4 : Step F3 H3 (fun c => c = b) F3 (upd H3 b (.lst (ws ++ [v3]))) := ⟨Sub.refl F3, fun c u e => by
                      rw [upd_ne (fun z => by rw [z, fb3] at e; cases e)]
                      exact S3.sub c u e, fun c u e n => by rw [upd_ne n]; exact e, fun c u e => .inl e⟩
                    have S4 := S3.stay s4 fun c hc z => nf3' b (by rw [efp]; exact List.mem_cons_of_mem _ mb) (by rw [← z]; exact hc)
                    have lρ : i < ρ2.length := by
                      have e1 := S3.len
                      have e2 := S2.len
                      have e3 := (List.getElem?_eq_some_iff.mp hv).1
                      omega
                    have S5 := S4.put (i := i) (o := .ol (os.set kk (.lst (ds ++ [d])))) (v := .ref a) (fr := fp2 i) lρ hv (by
                      unfold RepO
                      refine ⟨a, vs, bs, rfl, efp, fa3, ?_, rs4⟩
                      rw [upd_ne (fun z => nab (by rw [z]; exact mb))]
                      exact ka) (S2.nd i) (fun c hc j hj z => nf3' c hc ⟨j, z⟩)
                    refine ⟨b, ws, v3, rfl, rfl, kb, by rw [← rdb3.length]; exact hz, q σ F3 _ _ ⟨?_, S5, fun c ⟨j, hj⟩ => ?_, Keeps.refl _ _⟩⟩
                    · have t := s2.trans (own1 := Own fp2) (F2 := F3) (H2 := H3) ⟨s3.mono, s3.sub, fun c u e n => s3.keep c u e fun z => n (own_hide z), fun c u e => (s3.newF c u e).elim .inl fun z => z.elim (fun z => .inr (.inl z)) fun z => .inr (.inr (own_hide z))⟩ n2
                      refine ⟨t.mono, s4.sub, fun c u e n => ?_, t.newF⟩
                      have e' := t.keep c u e n
                      by_cases z : c = b
                      · subst z
                        rcases n2 c ⟨i, by rw [efp]; exact List.mem_cons_of_mem _ mb⟩ with z | z
                        · exact absurd z n
                        · rw [z] at e; cases e
                      · exact s4.keep c u e' z
                    · dsimp only at hj
                      by_cases ej : j = i
                      · rw [if_pos ej] at hj
                        exact n2 c ⟨i, hj⟩
                      · rw [if_neg ej] at hj
                        exact own_trans s2 n2 (own2 := Own fp3) (fun c z => (n3 c z).elim (fun z => .inl (own_hide z)) .inr) c ⟨j, hj⟩
                  · cases ev
                · cases ev
              · cases ev
            · cases ev
      · cases ev
    · cases ev
  · cases ev
theorem sound_setin {n i : Nat} {k jj v : E} {o ix jx x : Expr} {sp sp2 pos : Pos} (hn : nameB X.N X.env.scope i o = true) (hns : notSlice ix = true) (hnj : notSlice jx = true) (hk : SoundE X W ix (evE k)) (h : SoundE X W jx (evE jj)) (hv : SoundE X W x (evE v)) :
    SoundS X W (.Assign [.Subscript (.Subscript o ix sp) jx sp2] x pos) [] (evS n (.setin i k jj v)) := fun σ ρ F H fp fl ρ' D S ev q => by
  rw [evS] at ev
  refine wps_of (ps_asg pe_wp (pg_sub (pe_ix ix_list (pe_name hn) pe_wp (plainIx_of hns)) pe_wp set_list (by
    intro _
    cases jx <;> first | rfl | cases hnj)) (by cases x <;> rfl) (by cases x <;> rfl) rfl) ?_
  split at ev
  · rename_i d ρ0 e0v
    split at ev
    · rename_i os0 e00
      split at ev
      · rename_i j ρ1 e1
        split at ev
        · rename_i os e0
          cases he : evE jj (ρ1.set i none) with
          | none => rw [he] at ev; cases ev
          | some r =>
            obtain ⟨r, ρ2⟩ := r
            rw [he] at ev
            cases r with
            | ex z => cases ev
            | ok p =>
              simp only [setinO] at ev
              split at ev
              · rename_i bI
                split at ev
                · rename_i kk e2
                  split at ev
                  · rename_i ds e3
                    split at ev
                    · rename_i jn hz
                      cases ev
                      refine hv σ ρ F H fp _ ρ0 _ S e0v fun vd Fd Hd fpd frd sd Sd nd0 rvd ndd nfd => ?_
                      obtain ⟨v, hvv, _⟩ := Sd.at_ i _ e00
                      refine ⟨v, hvv, ?_⟩
                      refine hk σ ρ0 Fd Hd fpd _ ρ1 _ Sd e1 fun v2 F2 H2 fp2 fr2 s2 S2 n2 rv2 nd2 nf2 => ?_
                      obtain ⟨v', hv', rO⟩ := S2.at_ i _ e0
                      rw [hvv] at hv'
                      cases hv'
                      have nd := S2.nd i
                      have rO' := rO
                      unfold RepO at rO
                      obtain ⟨a, vs, bs, rfl, efp, fa, ha, rs⟩ := rO
                      rw [efp] at nd
                      obtain ⟨nab, ndb⟩ := List.nodup_cons.mp nd
                      obtain ⟨b, ws, hb, mb, hHb, fb, rdb, _⟩ := RepOs.at_ rs ndb e3
                      have lvs : os.length = vs.length := rs.length
                      have hat : L2.atI vs j = some (.ref b) := by
                        unfold L2.atI
                        rw [← lvs, e2]
                        exact hb
                      refine ⟨a, vs, j, .ref b, rfl, (repO_p rv2).int', .inl (.inl ha), hat, ?_⟩
                      have Sh := S2.hide i
                      refine h σ (ρ1.set i none) F2 H2 _ _ ρ2 _ Sh he fun v3 F3 H3 fp3 fr3 s3 S3 n3 rv3 nd3 nf3 => ?_
                      have no : ∀ c ∈ fp2 i, ¬ Own (fun j => if j = i then [] else fp2 j) c := fun c hc => S2.hide_no hc
                      have rO3 := rO'.stay s3 no
                      have ka : H3 a = some (.lst vs) := s3.keep a _ ha (no a (by rw [efp]; exact List.mem_cons_self))
                      have kb : H3 b = some (.lst ws) := s3.keep b _ hHb (no b (by rw [efp]; exact List.mem_cons_of_mem _ mb))
                      unfold RepO at rO3
                      obtain ⟨a3, vs3, bs3, ea, efp3, fa3, ha3, rs3⟩ := rO3
                      cases ea
                      rw [ka] at ha3
                      cases ha3
                      rw [efp] at efp3
                      cases efp3
                      obtain ⟨b3, ws3, hb3, mb3, hHb3, fb3, rdb3, wr⟩ := RepOs.at_ rs3 ndb e3
                      rw [hb] at hb3
                      cases hb3
                      rw [kb] at hHb3
                      cases hHb3
                      have rd : RepDs (gl X) F3 (ds.set jn d) (ws.set jn vd) := rdb3.set (((repO_p rvd).mono s2.mono).mono s3.mono) jn
                      have rs4 := wr _ _ rd
                      have nf3' : ∀ c ∈ fp2 i, ¬ Own fp3 c := fun c hc z => by
                        rcases n3 c z with z | z
                        · exact no c hc z
                        · obtain ⟨_, u, hu⟩ := S2.own ⟨i, hc⟩
                          rw [z] at hu; cases hu
                      have s4 : Step F3 H3 (fun c => c = b) F3 (upd H3 b (.lst (ws.set jn vd))) := ⟨Sub.refl F3, fun c u e => by
                        rw [upd_ne (fun z => by rw [z, fb3] at e; cases e)]
                        exact S3.sub c u e, fun c u e n => by rw [upd_ne n]; exact e, fun c u e => .inl e⟩
                      have S4 := S3.stay s4 fun c hc z => nf3' b (by rw [efp]; exact List.mem_cons_of_mem _ mb) (by rw [← z]; exact hc)
                      have lρ : i < ρ2.length := by
                        have e1 := S3.len
                        have e2 := S2.len
                        have e3 := (List.getElem?_eq_some_iff.mp hvv).1
                        omega
                      have S5 := S4.put (i := i) (o := .ol (os.set kk (.lst (ds.set jn d)))) (v := .ref a) (fr := fp2 i) lρ hvv (by
                        unfold RepO
                        refine ⟨a, vs, bs, rfl, efp, fa3, ?_, rs4⟩
                        rw [upd_ne (fun z => nab (by rw [z]; exact mb))]
                        exact ka) (S2.nd i) (fun c hc j hj z => nf3' c hc ⟨j, z⟩)
                      have T : Step Fd Hd (Own fpd) F3 (upd H3 b (.lst (ws.set jn vd))) := by
                        have t := s2.trans (own1 := Own fp2) (F2 := F3) (H2 := H3) ⟨s3.mono, s3.sub, fun c u e n => s3.keep c u e fun z => n (own_hide z), fun c u e => (s3.newF c u e).elim .inl fun z => z.elim (fun z => .inr (.inl z)) fun z => .inr (.inr (own_hide z))⟩ n2
                        refine ⟨t.mono, s4.sub, fun c u e n => ?_, t.newF⟩
                        have e' := t.keep c u e n
                        by_cases z : c = b
                        · subst z
                          rcases n2 c ⟨i, by rw [efp]; exact List.mem_cons_of_mem _ mb⟩ with z | z
                          · exact absurd z n
                          · rw [z] at e; cases e
                        · exact s4.keep c u e' z
                      refine ⟨b, ws, bI, jn, rfl, (repO_p rv3).int', kb, by rw [← rdb3.length]; exact hz, q σ F3 _ _ ⟨sd.trans T nd0, S5, fun c ⟨j, hj⟩ => ?_, Keeps.refl _ _⟩⟩
                      dsimp only at hj
                      have key : Own fpd c ∨ Hd c = none := by
                        by_cases ej : j = i
                        · rw [if_pos ej] at hj
                          exact n2 c ⟨i, hj⟩
                        · rw [if_neg ej] at hj
                          exact own_trans s2 n2 (own2 := Own fp3) (fun c z => (n3 c z).elim (fun z => .inl (own_hide z)) .inr) c ⟨j, hj⟩
                      rcases key with z | z
                      · exact nd0 c z
                      · by_cases w : Own fp c
                        · exact .inl w
                        · rcases none_or (H := H) c with y | ⟨u, y⟩
                          · exact .inr y
                          · rw [sd.keep c u y w] at z
                            cases z
                    · cases ev
                  · cases ev
                · cases ev
              · cases ev
        · cases ev
      · cases ev
    · cases ev
  · rename_i z ρ1 e1
    cases ev
    exact hv σ ρ F H fp _ _ _ S e1 (XPost.sp q)
  · cases ev
theorem nmPE_of {j : Option Nat} {nm : Option Expr} (h : nmE X.N X.env.scope j nm = true) : NmPE X j nm := by
  cases j with
  | none =>
    cases nm with
    | none => exact trivial
    | some x => cases h
  | some j =>
    cases nm with
    | none => cases h
    | some x =>
      have h : nameB X.N X.env.scope j x = true := h
      refine ⟨pe_name h, ?_⟩
      obtain ⟨m, mp, rfl, _⟩ := name_of h
      rfl
theorem nm_rep {g : Gl} {F H : Hp} {σ : St} {ρ : Ev} {fp : Nat → List Addr} (S : SOK g F H σ ρ fp) {j : Option Nat} {dn : Option D} (h : nmD ρ j = some dn) : NmRep g F σ j dn := by
  cases j with
  | none => cases h; exact trivial
  | some j =>
    unfold nmD at h
    dsimp only at h
    split at h
    · rename_i d e
      cases h
      obtain ⟨u, hu, r⟩ := S.at_ j _ e
      exact ⟨u, hu, repO_p r⟩
    · cases h
theorem sound_smut {n : Nat} {p : SMut} {i : Nat} {es : List E} {j : Option Nat} {st : Stmt} {o : Expr} {xs : List Expr} {nm : Option Expr} (B : XOK X) (hp : SMutOk (gx X) p) (ho : p.sx X.env.scope st = some (o, xs, nm)) (hn : nameB X.N X.env.scope i o = true) (hj : nmE X.N X.env.scope j nm = true) (h : SoundOs X W xs (evOs es)) : SoundS X W st [] (evS n (.smut p i es j)) := fun σ ρ F H fp fl ρ' D S e q => by
  rw [evS] at e
  cases e0 : ρ[i]? with
  | none => rw [e0] at e; cases e
  | some q0 =>
    cases q0 with
    | none => rw [e0] at e; cases e
    | some o0 =>
      rw [e0] at e
      simp only [smutA] at e
      split at e
      · rename_i hk
        obtain ⟨v, hv, rv⟩ := S.at_ i o0 e0
        refine hp.run rfl B ho (nmPE_of hj) (pe_name hn) (name_val hn) hv S.sub rv hk ?_
        cases e1 : evOs es ρ with
        | none => rw [e1] at e; cases e
        | some z =>
          obtain ⟨r1, ρ1⟩ := z
          rw [e1] at e
          cases r1 with
          | ex z =>
            cases e
            exact h σ ρ F H fp _ ρ' _ S e1 (XPost.sp q)
          | ok qs =>
            simp only [smutB] at e
            cases e2 : ρ1[i]? with
            | none => rw [e2] at e; cases e
            | some w =>
              cases w with
              | none => rw [e2] at e; cases e
              | some o1 =>
                cases e3 : vws ρ1 qs with
                | none => rw [e2, e3] at e; cases e
                | some os =>
                  rw [e2, e3] at e
                  cases e5 : nmD ρ1 j with
                  | none => rw [e5] at e; cases e
                  | some dn =>
                  rw [e5] at e
                  simp only [smutC] at e
                  cases e4 : p.ev o1 os dn with
                  | none => rw [e4] at e; cases e
                  | some o2 =>
                    rw [e4] at e
                    cases e
                    refine h σ ρ F H fp _ ρ1 _ S e1 fun vs F1 H1 fp1 s1 S1 n1 rs => ?_
                    obtain ⟨v1, hv1, rv1⟩ := S1.at_ i o1 e2
                    rw [hv] at hv1
                    cases hv1
                    refine ⟨F1, o1, fp1 i, os, dn, o2, S1.sub, rv1, S1.nd i, vws_rep S1 rs e3, nm_rep S1 e5, e4, fun F2 H2 as2 m2 sb2 k2 nw2 r2 nd2 nf2 => ?_⟩
                    have st : Step F1 H1 (fun b => b ∈ fp1 i) F2 H2 := ⟨m2, sb2, fun b w e n => k2 b w e n, fun b w e => (nw2 b w e).elim .inl fun z => .inr (.inl z)⟩
                    have Sh : SOK (gl X) F2 H2 σ (ρ1.set i none) (fun j => if j = i then [] else fp1 j) := (S1.hide i).stay st fun b hb hm => S1.hide_no hm hb
                    have hi : i < ρ1.length := (List.getElem?_eq_some_iff.mp e2).1
                    have S2 := Sh.put (i := i) (o := o2) (v := v) (fr := as2) (by rw [List.length_set]; exact hi) hv r2 nd2 (fun b hb j hj z => by
                      rw [if_neg hj] at z
                      rcases nf2 b hb with y | y
                      · exact hj (S1.dj j i b z y)
                      · obtain ⟨_, w, hw⟩ := S1.own ⟨j, z⟩
                        rw [y] at hw; cases hw)
                    rw [List.set_set] at S2
                    have so : Step F1 H1 (Own fp1) F2 H2 := ⟨st.mono, st.sub, fun b w e n => st.keep b w e fun z => n ⟨i, z⟩, fun b w e => (st.newF b w e).elim .inl fun z => z.elim (fun z => .inr (.inl z)) fun z => .inr (.inr ⟨i, z⟩)⟩
                    have n2 : ∀ b, Own (fun j => if j = i then as2 else if j = i then [] else fp1 j) b → Own fp1 b ∨ H1 b = none := fun b ⟨j, hj⟩ => by
                      dsimp only at hj
                      by_cases ej : j = i
                      · rw [if_pos ej] at hj
                        exact (nf2 b hj).elim (fun z => .inl ⟨i, z⟩) .inr
                      · rw [if_neg ej, if_neg ej] at hj
                        exact .inl ⟨j, hj⟩
                    exact q σ F2 H2 _ ⟨s1.trans so n1, S2, own_trans s1 n1 n2, Keeps.refl _ _⟩
      · cases e
theorem sound_smutL {n : Nat} {p : SMut} {i : Nat} {es : List E} {st : Stmt} {o : Expr} {xs : List Expr} (B : XOK X) (hp : SMutLOk (gx X) p) (ho : p.sx X.env.scope st = some (o, xs, none)) (hn : nameB X.N X.env.scope i o = true) (h : SoundOs X W xs (evOs es)) : SoundS X W st [] (evS n (.smutL p i es)) := fun σ ρ F H fp fl ρ' D S e q => by
  rw [evS] at e
  cases e0 : ρ[i]? with
  | none => rw [e0] at e; cases e
  | some q0 =>
    cases q0 with
    | none => rw [e0] at e; cases e
    | some o0 =>
      rw [e0] at e
      simp only [smutLA] at e
      cases hk : p.ok o0 with
      | false => rw [hk] at e; cases e
      | true =>
        rw [hk] at e
        simp only [smutLC] at e
        obtain ⟨v, hv, rv⟩ := S.at_ i o0 e0
        refine hp.run rfl B ho (pe_name hn) (name_val hn) hv S.sub rv (S.nd i) hk ?_
        cases e1 : evOs es (ρ.set i none) with
        | none => rw [e1] at e; cases e
        | some z =>
          obtain ⟨r1, ρ1⟩ := z
          rw [e1] at e
          cases r1 with
          | ex z =>
            cases e
            refine h σ _ F H _ _ ρ1 _ (S.hide i) e1 fun C d F1 H1 fp1 s1 S1 n1 rx => ?_
            obtain ⟨s2, _, _, fp2, S2, n2, _⟩ := S.unlock e0 hv rv s1 S1 n1
            exact q C d σ F1 H1 fp2 ⟨s2, S2, n2, Keeps.refl _ _⟩ rx
          | ok qs =>
            simp only [smutLD] at e
            cases e3 : vws ρ1 qs with
            | none => rw [e3] at e; cases e
            | some os =>
              rw [e3] at e
              simp only [smutC] at e
              cases e4 : p.ev o0 os none with
              | none => rw [e4] at e; cases e
              | some o2 =>
                rw [e4] at e
                cases e
                refine h σ _ F H _ _ ρ1 _ (S.hide i) e1 fun vs F1 H1 fp1 s1 S1 n1 rs => ?_
                obtain ⟨s2, kp, rv1, fp2, S2, n2, ei⟩ := S.unlock e0 hv rv s1 S1 n1
                refine ⟨kp, F1, os, o2, S1.sub, rv1, vws_rep S1 rs e3, e4, fun F3 H3 as3 m3 sb3 k3 nw3 r3 nd3 nf3 => ?_⟩
                have st : Step F1 H1 (fun b => b ∈ fp i) F3 H3 := ⟨m3, sb3, fun b w e n => k3 b w e n, fun b w e => (nw3 b w e).elim .inl fun z => .inr (.inl z)⟩
                have Sh : SOK (gl X) F3 H3 σ ((ρ1.set i (some o0)).set i none) (fun j => if j = i then [] else fp2 j) := (S2.hide i).stay st fun b hb hm => S2.hide_no (by rw [ei]; exact hm) hb
                have hi : i < ρ1.length := by
                  have := S1.len
                  have h1 := (List.getElem?_eq_some_iff.mp hv).1
                  omega
                have S3 := Sh.put (i := i) (o := o2) (v := v) (fr := as3) (by rw [List.length_set, List.length_set]; exact hi) hv r3 nd3 (fun b hb j hj z => by
                  rw [if_neg hj] at z
                  rcases nf3 b hb with y | y
                  · exact hj (S2.dj j i b z (by rw [ei]; exact y))
                  · obtain ⟨_, w, hw⟩ := S2.own ⟨j, z⟩
                    rw [y] at hw; cases hw)
                rw [List.set_set, List.set_set] at S3
                have so : Step F1 H1 (Own fp2) F3 H3 := ⟨st.mono, st.sub, fun b w e n => st.keep b w e fun z => n ⟨i, by rw [ei]; exact z⟩, fun b w e => (st.newF b w e).elim .inl fun z => z.elim (fun z => .inr (.inl z)) fun z => .inr (.inr ⟨i, by rw [ei]; exact z⟩)⟩
                have n3 : ∀ b, Own (fun j => if j = i then as3 else if j = i then [] else fp2 j) b → Own fp2 b ∨ H1 b = none := fun b ⟨j, hj⟩ => by
                  dsimp only at hj
                  by_cases ej : j = i
                  · rw [if_pos ej] at hj
                    exact (nf3 b hj).elim (fun z => .inl ⟨i, by rw [ei]; exact z⟩) .inr
                  · rw [if_neg ej, if_neg ej] at hj
                    exact .inl ⟨j, hj⟩
                exact q σ F3 H3 _ ⟨s2.trans so n2, S3, own_trans s2 n2 n3, Keeps.refl _ _⟩
theorem sound_seto {n : Nat} {p : SetOD} {i : Nat} {e0 : E} {j : Option Nat} {st : Stmt} {o x : Expr} {nm : Option Expr} (B : XOK X) (hp : SetOk (gx X) p) (ho : p.sx X.env.scope st = some (o, x, nm)) (hn : nameB X.N X.env.scope i o = true) (hj : nmE X.N X.env.scope j nm = true) (h : SoundE X W x (evE e0)) : SoundS X W st [] (evS n (.seto p i e0 j)) := fun σ ρ F H fp fl ρ' D S e q => by
  rw [evS] at e
  cases e0' : ρ[i]? with
  | none => rw [e0'] at e; cases e
  | some q0 =>
    cases q0 with
    | none => rw [e0'] at e; cases e
    | some o0 =>
      rw [e0'] at e
      simp only [setoA] at e
      split at e
      · rename_i hk
        obtain ⟨v, hv, rv⟩ := S.at_ i o0 e0'
        refine hp.run rfl B ho (nmPE_of hj) (pe_name hn) (name_val hn) hv S.sub rv hk ?_
        cases e1 : evE e0 ρ with
        | none => rw [e1] at e; cases e
        | some z =>
          obtain ⟨r1, ρ1⟩ := z
          rw [e1] at e
          cases r1 with
          | ex z =>
            cases e
            exact h σ ρ F H fp _ ρ' _ S e1 (XPost.sp q)
          | ok ou =>
            simp only [setoB] at e
            cases e2 : ρ1[i]? with
            | none => rw [e2] at e; cases e
            | some w =>
              cases w with
              | none => rw [e2] at e; cases e
              | some o1 =>
                rw [e2] at e
                cases e5 : nmD ρ1 j with
                | none => rw [e5] at e; cases e
                | some dn =>
                  rw [e5] at e
                  simp only [setoC] at e
                  cases e4 : p.ev o1 ou dn with
                  | none => rw [e4] at e; cases e
                  | some o2 =>
                    rw [e4] at e
                    cases e
                    refine h σ ρ F H fp _ ρ1 _ S e1 fun u F1 H1 fp1 fr s1 S1 n1 ru ndu nfu => ?_
                    obtain ⟨v1, hv1, rv1⟩ := S1.at_ i o1 e2
                    rw [hv] at hv1
                    cases hv1
                    have nd1 : (fp1 i ++ fr).Nodup := List.nodup_append.mpr ⟨S1.nd i, ndu, fun a ha b hb z => by
                      subst z
                      exact (nfu a hb).2 ⟨i, ha⟩⟩
                    refine ⟨F1, o1, fp1 i, ou, fr, dn, o2, S1.sub, rv1, ru, nd1, nm_rep S1 e5, e4, fun F2 H2 as2 m2 sb2 k2 nw2 r2 nd2 nf2 => ?_⟩
                    have st : Step F1 H1 (fun b => b ∈ fp1 i) F2 H2 := ⟨m2, sb2, fun b w e n => k2 b w e n, fun b w e => (nw2 b w e).elim .inl fun z => .inr (.inl z)⟩
                    have Sh : SOK (gl X) F2 H2 σ (ρ1.set i none) (fun j => if j = i then [] else fp1 j) := (S1.hide i).stay st fun b hb hm => S1.hide_no hm hb
                    have hi : i < ρ1.length := (List.getElem?_eq_some_iff.mp e2).1
                    have S2 := Sh.put (i := i) (o := o2) (v := v) (fr := as2) (by rw [List.length_set]; exact hi) hv r2 nd2 (fun b hb j hj z => by
                      rw [if_neg hj] at z
                      rcases nf2 b hb with y | y
                      · rcases List.mem_append.mp y with y | y
                        · exact hj (S1.dj j i b z y)
                        · exact (nfu b y).2 ⟨j, z⟩
                      · obtain ⟨_, w, hw⟩ := S1.own ⟨j, z⟩
                        rw [y] at hw; cases hw)
                    rw [List.set_set] at S2
                    have so : Step F1 H1 (Own fp1) F2 H2 := ⟨st.mono, st.sub, fun b w e n => st.keep b w e fun z => n ⟨i, z⟩, fun b w e => (st.newF b w e).elim .inl fun z => z.elim (fun z => .inr (.inl z)) fun z => .inr (.inr ⟨i, z⟩)⟩
                    have n0 : ∀ b, (Own fp1 b ∨ b ∈ fr) → Own fp b ∨ H b = none := fun b hb => hb.elim (n1 b) fun z => (nfu b z).1
                    have n2 : ∀ b, Own (fun j => if j = i then as2 else if j = i then [] else fp1 j) b → (Own fp1 b ∨ b ∈ fr) ∨ H1 b = none := fun b ⟨j, hj⟩ => by
                      dsimp only at hj
                      by_cases ej : j = i
                      · rw [if_pos ej] at hj
                        refine (nf2 b hj).elim (fun z => .inl ?_) .inr
                        exact (List.mem_append.mp z).elim (fun z => .inl ⟨i, z⟩) .inr
                      · rw [if_neg ej, if_neg ej] at hj
                        exact .inl (.inl ⟨j, hj⟩)
                    exact q σ F2 H2 _ ⟨s1.trans so n1, S2, own_trans s1 n0 n2, Keeps.refl _ _⟩
      · cases e
theorem sound_rsp {n : Nat} {p : RaiseD} {es : List E} {st : Stmt} {xs : List Expr} (B : XOK X) (hcl : X.calm = true) (tk : Takes X W) (hp : RaiseOk (gx X) p) (ho : p.sx X.env.scope st = some xs) (h : SoundOs X W xs (evOs es)) : SoundS X W st [] (evS n (.rsp p es)) := fun σ ρ F H fp fl ρ' D S e q => by
  rw [evS] at e
  refine hp.run rfl B tk hcl ho ?_
  cases e1 : evOs es ρ with
  | none => rw [e1] at e; cases e
  | some z =>
    obtain ⟨r1, ρ1⟩ := z
    rw [e1] at e
    cases r1 with
    | ex z =>
      cases e
      exact h σ ρ F H fp _ ρ' _ S e1 (XPost.sp q)
    | ok qs =>
      simp only [rspB] at e
      cases e3 : vws ρ1 qs with
      | none => rw [e3] at e; cases e
      | some os =>
        rw [e3] at e
        simp only [rspC] at e
        cases e4 : p.ev os with
        | none => rw [e4] at e; cases e
        | some x =>
          rw [e4] at e
          cases e
          refine h σ ρ F H fp _ _ _ S e1 fun vs F1 H1 fp1 s1 S1 n1 rs => ?_
          refine ⟨F1, os, x, S1.sub, vws_rep S1 rs e3, e4, fun C d F2 H2 m2 sb2 k2 nw2 rx => ?_⟩
          have st : Step F1 H1 (fun _ => False) F2 H2 := ⟨m2, sb2, fun b w e _ => k2 b w e, fun b w e => (nw2 b w e).elim .inl fun z => .inr (.inl z)⟩
          have S2 := S1.stay st fun _ _ z => z
          exact q C d σ F2 H2 fp1 ⟨s1.trans st fun c z => False.elim z, S2, n1, Keeps.refl _ _⟩ rx
end
end DV
namespace DV
open PySem PySem.Spec PyProof.Rows L2
section
variable {X : Cx} {W : WX} {asn : List Nat}
theorem sound_retN {n : Nat} {pos : Pos} : SoundS X W (.Return none pos) [] (evS n .retN) := fun σ ρ F H fp fl ρ' D S ev q => by
  rw [evS] at ev
  cases ev
  exact wps_of ps_retN (q .non σ F H fp [] ⟨Step.refl S.sub, S, fun _ h => .inl h, Keeps.refl _ _⟩ (by unfold RepO RepD; exact ⟨rfl, rfl⟩) List.nodup_nil (by simp))
theorem sound_pass {n : Nat} {pos : Pos} : SoundS X W (.Pass pos) [] (evS n .pass) := fun σ ρ F H fp fl ρ' D S ev q => by
  rw [evS] at ev
  cases ev
  exact wps_of ps_pass (q σ F H fp ⟨Step.refl S.sub, S, fun _ h => .inl h, Keeps.refl _ _⟩)
theorem sound_brk {n : Nat} {pos : Pos} : SoundS X W (.Break pos) [] (evS n .brk) := fun σ ρ F H fp fl ρ' D S ev q => by
  rw [evS] at ev
  cases ev
  exact wps_of ps_break (q σ F H fp ⟨Step.refl S.sub, S, fun _ h => .inl h, Keeps.refl _ _⟩)
theorem sound_cnt {n : Nat} {pos : Pos} : SoundS X W (.Continue pos) [] (evS n .cnt) := fun σ ρ F H fp fl ρ' D S ev q => by
  rw [evS] at ev
  cases ev
  exact wps_of ps_continue (q σ F H fp ⟨Step.refl S.sub, S, fun _ h => .inl h, Keeps.refl _ _⟩)
theorem SPost.of_step {g : Gl} {F H F1 H1 : Hp} {fp fp1 : Nat → List Addr} {asn asn1 : List Nat} {σ : St} {ρ1 ρ' : Ev} {D : Ends} {fl : Fl} (s : Step F H (Own fp) F1 H1) (S1 : SOK g F1 H1 σ ρ1 fp1) (n : ∀ a, Own fp1 a → Own fp a ∨ H a = none) (h : ∀ i ∈ asn1, i ∈ asn) (q : SPost g F H fp asn σ D W ρ' fl) : SPost g F1 H1 fp1 asn1 σ D W ρ' fl :=
  SPost.after ⟨s, S1, n, Keeps.refl _ _⟩ h q
theorem sound_ife {n : Nat} {t : E} {a b : List S} {c : Expr} {x y : List Stmt} {pos : Pos} (hc : SoundT X W c (evE t)) (ha : SoundSs X W x (asSs a) (evSs n a)) (hb : SoundSs X W y (asSs b) (evSs n b)) : SoundS X W (.If c x y pos) (asS (.ife t a b)) (evS n (.ife t a b)) := fun σ ρ F H fp fl ρ' D S ev q => by
  rw [evS] at ev
  have ma : ∀ i ∈ asSs a, i ∈ asS (.ife t a b) := fun i h => by unfold asS; exact List.mem_append_left _ h
  have mb : ∀ i ∈ asSs b, i ∈ asS (.ife t a b) := fun i h => by unfold asS; exact List.mem_append_right _ h
  refine wps_of (ps_if pt_wp pss_wp pss_wp) ?_
  split at ev
  · rename_i ρ1 e1
    refine hc σ ρ F H fp _ ρ1 _ S e1 fun F1 H1 fp1 s1 S1 n1 => ?_
    exact iteT (ha σ ρ1 F1 H1 fp1 fl ρ' D S1 ev (SPost.of_step s1 S1 n1 ma q))
  · rename_i ρ1 e1
    refine hc σ ρ F H fp _ ρ1 _ S e1 fun F1 H1 fp1 s1 S1 n1 => ?_
    exact iteF (hb σ ρ1 F1 H1 fp1 fl ρ' D S1 ev (SPost.of_step s1 S1 n1 mb q))
  · rename_i z ρ1 e1
    cases ev
    exact hc σ ρ F H fp _ _ _ S e1 (XPost.sp q)
  · cases ev
theorem sound_whl {n : Nat} {t : E} {a : List S} {c : Expr} {x : List Stmt} {pos : Pos} (B : SXOK X) (hc : SoundT X W c (evE t)) (ha : SoundSs X W x (asSs a) (evSs n a)) : SoundS X W (.While c x [] pos) (asSs a) (evS n (.whl t a)) := fun σ ρ F H fp fl ρ' D S ev q => by
  rw [evS] at ev
  refine wps_of (ps_while B.own pt_wp pss_wp) ?_
  refine ⟨fun m σi Hi => ∃ ρi Fi fpi, After (gl X) F H fp (asSs a) σ σi ρi Fi Hi fpi ∧ whlRun (fun r => evE t r) (fun r => evSs n a r) m ρi = some (fl, ρ'), ⟨n, ρ, F, fp, ⟨Step.refl S.sub, S, fun _ h => .inl h, Keeps.refl _ _⟩, ev⟩, ?_⟩
  rintro m σi Hi ⟨ρi, Fi, fpi, A, run⟩
  have qi : SPost (gl X) Fi Hi fpi (asSs a) σi D W ρ' fl := SPost.after A (fun i h => h) q
  cases m with
  | zero => unfold whlRun at run; cases run
  | succ m =>
    unfold whlRun at run
    split at run
    · rename_i ρ1 e1
      refine hc σi ρi Fi Hi fpi _ ρ1 _ A.S e1 fun F1 H1 fp1 s1 S1 n1 => iteT ?_
      have A1 : After (gl X) F H fp (asSs a) σ σi ρ1 F1 H1 fp1 := A.after (asn1 := asSs a) ⟨s1, S1, n1, Keeps.refl _ _⟩ fun i h => h
      refine ⟨fun σ' H' => ∃ m', m' < m + 1 ∧ ∃ ρi Fi fpi, After (gl X) F H fp (asSs a) σ σ' ρi Fi H' fpi ∧ whlRun (fun r => evE t r) (fun r => evSs n a r) m' ρi = some (fl, ρ'), fun σ' H' h => h, ?_⟩
      have q1 : SPost (gl X) F1 H1 fp1 (asSs a) σi D W ρ' fl := SPost.of_step s1 S1 n1 (fun i h => h) qi
      split at run
      · rename_i ρ2 e2
        exact ha σi ρ1 F1 H1 fp1 .nx ρ2 _ S1 e2 fun σ2 F2 H2 fp2 A2 => ⟨m, Nat.lt_succ_self m, ρ2, F2, fp2, A1.after A2 (fun i h => h), run⟩
      · rename_i ρ2 e2
        exact ha σi ρ1 F1 H1 fp1 .ct ρ2 _ S1 e2 fun σ2 F2 H2 fp2 A2 => ⟨m, Nat.lt_succ_self m, ρ2, F2, fp2, A1.after A2 (fun i h => h), run⟩
      · rename_i ρ2 e2
        cases run
        exact ha σi ρ1 F1 H1 fp1 .bk ρ' _ S1 e2 q1
      · rename_i o ρ2 e2
        cases run
        exact ha σi ρ1 F1 H1 fp1 (.rt o) ρ' _ S1 e2 q1
      · rename_i z ρ2 e2
        cases run
        exact ha σi ρ1 F1 H1 fp1 (.ex z) ρ' _ S1 e2 q1
      · cases run
    · rename_i ρ1 e1
      cases run
      refine hc σi ρi Fi Hi fpi _ ρ' _ A.S e1 fun F1 H1 fp1 s1 S1 n1 => iteF ?_
      exact qi σi F1 H1 fp1 ⟨s1, S1, n1, Keeps.refl _ _⟩
    · rename_i z ρ1 e1
      cases run
      exact hc σi ρi Fi Hi fpi _ ρ' _ A.S e1 (XPost.sp qi)
    · cases run
/-- what a loop put aside comes back -/
theorem After.unlock {g : Gl} {F1 H1 : Hp} {σ : St} {ρ1 : Ev} {fp1 : Nat → List Addr} {L : List Nat} (S1 : SOK g F1 H1 σ ρ1 fp1) (nd : L.Nodup) (dis : ∀ i ∈ L, i ∉ asn) {σ' : St} {ρ' : Ev} {F' H' : Hp} {fp' : Nat → List Addr} (a : After g F1 H1 (fpHide fp1 L) asn σ σ' ρ' F' H' fp') :
    ∃ fp2, After g F1 H1 fp1 asn σ σ' (backAll ρ1 ρ' L) F' H' fp2 ∧ ∀ b, Own fp2 b → Own fp' b ∨ ∃ i ∈ L, b ∈ fp1 i := by
  obtain ⟨fp2, S2, n2, _⟩ := SOK.backAll (own := Own (fpHide fp1 L)) S1 a.s L a.S (by rw [a.S.len, S1.len, a.k.1]) (fun i hi => a.k.2 i (dis i hi)) nd (fun i hi b hb => S1.hideAll_no hi hb) (fun i hi b hb z => by
    rcases a.n b z with z | z
    · exact S1.hideAll_no hi hb z
    · obtain ⟨_, u, hu⟩ := S1.own ⟨i, hb⟩
      rw [z] at hu; cases hu)
  refine ⟨fp2, ⟨⟨a.s.mono, a.s.sub, fun b u e n => a.s.keep b u e fun z => n (own_hideAll _ z), fun b u e => (a.s.newF b u e).elim .inl fun z => z.elim (fun z => .inr (.inl z)) fun z => .inr (.inr (own_hideAll _ z))⟩, S2, fun b h => ?_, a.k⟩, n2⟩
  rcases n2 b h with z | ⟨i, hi, z⟩
  · exact (a.n b z).elim (fun z => .inl (own_hideAll _ z)) .inr
  · exact .inl ⟨i, z⟩
theorem SPost.lock {g : Gl} {F1 H1 : Hp} {σ : St} {ρ1 : Ev} {fp1 : Nat → List Addr} {L : List Nat} (S1 : SOK g F1 H1 σ ρ1 fp1) (nd : L.Nodup) (dis : ∀ i ∈ L, i ∉ asn) {D : Ends} {ρ' : Ev} {fl : Fl} (q : SPost g F1 H1 fp1 asn σ D W (backAll ρ1 ρ' L) fl) : SPost g F1 H1 (fpHide fp1 L) asn σ D W ρ' fl := by
  cases fl with
  | nx =>
      intro σ' F' H' fp' a
      obtain ⟨fp2, a2, _⟩ := a.unlock S1 nd dis
      exact q σ' F' H' fp2 a2
  | bk =>
      intro σ' F' H' fp' a
      obtain ⟨fp2, a2, _⟩ := a.unlock S1 nd dis
      exact q σ' F' H' fp2 a2
  | ct =>
      intro σ' F' H' fp' a
      obtain ⟨fp2, a2, _⟩ := a.unlock S1 nd dis
      exact q σ' F' H' fp2 a2
  | rt o =>
      intro v σ' F' H' fp' fr a r ndr nf
      obtain ⟨fp2, a2, n2⟩ := a.unlock S1 nd dis
      refine q v σ' F' H' fp2 fr a2 r ndr fun b hb => ⟨(nf b hb).1.elim (fun z => .inl (own_hideAll _ z)) .inr, fun z => ?_⟩
      rcases n2 b z with z | ⟨i, hi, z⟩
      · exact (nf b hb).2 z
      · rcases (nf b hb).1 with w | w
        · exact S1.hideAll_no hi z w
        · obtain ⟨_, u, hu⟩ := S1.own ⟨i, z⟩
          rw [w] at hu; cases hu
  | ex x =>
      intro C d σ' F' H' fp' a r
      obtain ⟨fp2, a2, _⟩ := a.unlock S1 nd dis
      exact q C d σ' F' H' fp2 a2 r
theorem sound_for {n : Nat} {g : Tg} {k : ItK} {src : List E} {body : List S} {tg it : Expr} {x : List Stmt} {xs : List Expr} {pos : Pos} (B : SXOK X) (hcl : X.calm = true) (hkk : ItKOk (gx X) k) (ht : (tgNames X.N (locB X.env.scope) g tg).isSome = true) (hit : itOpnds k X.env.scope tg it = some xs) (hsrc : SoundOs X W xs (evOs src)) (hb : SoundSs X W x (asSs body) (evSs n body)) :
    SoundS X W (.For tg it x [] pos) (g.slots ++ asSs body) (evS n (.for_ g k src body)) := fun σ ρ F H fp fl ρ' D S ev q => by
  obtain ⟨l, hl⟩ := Option.isSome_iff_exists.mp ht
  have mg : ∀ i ∈ g.slots, i ∈ g.slots ++ asSs body := fun i h => List.mem_append_left _ h
  have mb : ∀ i ∈ asSs body, i ∈ g.slots ++ asSs body := fun i h => List.mem_append_right _ h
  simp only [evS] at ev
  refine wps_of (ps_for B.own hcl (pi_ok B.toXOK hkk hit) (tg_ok B.toXOK hcl B.okT hl) pss_wp (setIt_of (itOpnds_notSet hit))) ?_
  split at ev
  · rename_i qs ρ1 e1
    split at ev
    · rename_i os e2
      split at ev
      · rename_i ds e3
        split at ev
        · rename_i nd
          obtain ⟨nd, dis⟩ := nd
          split at ev
          · rename_i fl2 ρ2 e4
            cases ev
            refine hsrc σ ρ F H fp _ ρ1 _ S e1 fun vs F1 H1 fp1 s1 S1 n1 rs => ?_
            obtain ⟨l1, l2, k1, k2⟩ := args_at S1 rs e2
            refine ⟨F1, os, ds, Own (fpArg fp1 (ownIx ρ1 qs)), S1.sub, repVsP_of l1 k1 (fun j a ha => ⟨j, ha⟩), e3, fun J G wk st => ?_⟩
            have q1 : SPost (gl X) F1 H1 fp1 (g.slots ++ asSs body) σ D W (backAll ρ1 ρ2 (lockd ρ1 qs)) fl := SPost.of_step s1 S1 n1 (fun i h => h) q
            have q2 := SPost.lock S1 nd dis q1
            have Sh := S1.hideAll (lockd ρ1 qs)
            refine for_it wk (fun i σi Hi => ∃ Fi ρi fpi, After (gl X) F1 H1 (fpHide fp1 (lockd ρ1 qs)) (g.slots ++ asSs body) σ σi ρi Fi Hi fpi ∧ forRun g (fun r => evSs n body r) (ds.drop i) ρi = some (fl, ρ2)) ?_ ?_ ?_ ?_
            · exact ⟨F1, _, _, ⟨Step.refl Sh.sub, Sh, fun _ h => .inl h, Keeps.refl _ _⟩, e4⟩
            · rintro i σi Hi hi ⟨Fi, ρi, fpi, A, run⟩
              exact st Fi Hi A.s.mono A.s.sub fun a u ha hu => A.s.keep a u hu (own_arg S1 (fun i hi => hi) ha).2
            · rintro i x σi Hi H2 hi ⟨Fi, ρi, fpi, A, run⟩ y
              obtain ⟨d, F2, ed, s2, S2, rd⟩ := yd_step A.S A.s.mono y
              have ed' : ds.drop i = d :: ds.drop (i + 1) := by
                rw [List.drop_eq_getElem_cons (show i < ds.length from hi)]
                congr 1
                rw [List.getElem?_eq_getElem (show i < ds.length from hi)] at ed
                exact Option.some.inj ed
              rw [ed'] at run
              unfold forRun at run
              split at run
              · cases run
              · rename_i ρa ea
                refine set_tg S2 ea rd fun σ2 Z => ?_
                obtain ⟨⟨fpa, Sa, oa⟩, za, la2⟩ := Z
                have s2' : Step Fi Hi (Own fpi) F2 H2 := ⟨s2.mono, s2.sub, fun b u e _ => s2.keep b u e id, fun b u e => (s2.newF b u e).elim .inl fun z => z.elim (fun z => .inr (.inl z)) False.elim⟩
                have A2 : After (gl X) F1 H1 (fpHide fp1 (lockd ρ1 qs)) (g.slots ++ asSs body) σ σ2 ρa F2 H2 fpa := A.after (asn1 := g.slots) ⟨s2', Sa, fun b h => .inl (oa b h), by rw [← Sa.len, ← S2.len, la2], fun i hi => (za i hi).1⟩ mg
                have q3 : SPost (gl X) F2 H2 fpa (asSs body) σ2 D W ρ2 fl := SPost.after A2 mb q2
                split at run
                · rename_i ρb eb
                  exact hb σ2 ρa F2 H2 fpa .nx ρb _ Sa eb fun σ3 F3 H3 fp3 A3 => ⟨F3, ρb, fp3, A2.after A3 mb, run⟩
                · rename_i ρb eb
                  exact hb σ2 ρa F2 H2 fpa .ct ρb _ Sa eb fun σ3 F3 H3 fp3 A3 => ⟨F3, ρb, fp3, A2.after A3 mb, run⟩
                · rename_i ρb eb
                  cases run
                  exact hb σ2 ρa F2 H2 fpa .bk _ _ Sa eb q3
                · rename_i o ρb eb
                  cases run
                  exact hb σ2 ρa F2 H2 fpa (.rt o) _ _ Sa eb q3
                · rename_i z ρb eb
                  cases run
                  exact hb σ2 ρa F2 H2 fpa (.ex z) _ _ Sa eb q3
                · cases run
            · rintro σn Hn ⟨Fi, ρi, fpi, A, run⟩
              rw [List.drop_length] at run
              unfold forRun at run
              cases run
              exact q2 σn Fi Hn fpi A
          · cases ev
        · cases ev
      · cases ev
    · cases ev
  · rename_i z ρ1 e1
    cases ev
    exact hsrc σ ρ F H fp (.ex z) _ _ S e1 (XPost.sp q)
  · cases ev
end
end DV
namespace DV
open PySem PySem.Spec PyProof.Rows L2
theorem soundS_asg {n i : Nat} {e : E} {X : Cx} {W : WX} {st : Stmt} (B : SXOK X) (tk : Takes X W) (hc : CallsE (gx X) e) (h : chkS X.N (.asg i e) X.env.scope st = true) : SoundS X W st [i] (evS n (.asg i e)) := by
  simp only [chkS] at h
  split at h
  · rename_i y py x pos
    simp only [Bool.and_eq_true, decide_eq_true_eq, Bool.or_eq_true] at h
    obtain ⟨h1, h2, h3, h4, h5⟩ := h
    by_cases hx : notLc x = true
    · exact sound_asg B h1 h2 hx (soundE e B.toXOK tk hc h4)
    · have h6 := h5.resolve_left hx
      cases e with
      | lc g k src cs elt =>
        cases x with
        | ListComp el gs sp p =>
          by_cases hq : X.env.scope.names.lookup y = some .cell
          · exact sound_asgC B h1 h2 (swaps_cell hq) (soundE (.lc g k src cs elt) B.toXOK tk hc h4)
          · exact sound_asgLc B tk hc h1 h4 hq h3
        | _ => first | exact absurd rfl hx | (simp [chkE] at h4)
      | _ => cases h6
  · cases h
theorem soundS_drop {n : Nat} {e : E} {X : Cx} {W : WX} {st : Stmt} (B : SXOK X) (tk : Takes X W) (hc : CallsE (gx X) e) (h : chkS X.N (.ex e) X.env.scope st = true) : SoundS X W st [] (evS n (.ex e)) := by
  simp only [chkS] at h
  split at h
  · simp only [Bool.and_eq_true] at h
    exact sound_drop h.1 (soundE e B.toXOK tk hc h.2)
  · cases h
theorem sound_rse {X : Cx} {W : WX} {n : Nat} {c m : Str} {j : Nat} {np p2 cp pos : Pos} (B : SXOK X) (hcl : X.calm = true) (tk : Takes X W) (h : ExcOk (gx X) c) (hg : glName X.env.scope c = true) : SoundS X W (.Raise (some (.Call (.Name c np) [.Constant (.str m) j p2] [] cp)) none pos) [] (evS n (.rse c)) := fun σ ρ F H fp fl ρ' D S ev q => by
  rw [evS] at ev
  cases ev
  obtain ⟨C, h1, h2, h3, h4, h5, h6⟩ := h
  refine wps_of (ps_raise hcl tk (pmk_own PySem.F.excBase_ValueError h3 h1 h2 (raises_own h4 h5) (gl_of hg) h6)) ?_
  exact q (.ref C) none σ F H fp ⟨Step.refl S.sub, S, fun _ h => .inl h, Keeps.refl _ _⟩ ⟨C, [], rfl, h1, rfl, rfl, by unfold RepDs; rfl⟩
theorem takes_no {X : Cx} : Takes X (fun _ _ _ _ => False) := fun u s' ⟨_, _, _, _, _, _, _, _, _, _, _, _, _, _, _, _, w⟩ => w.elim
theorem SXOK.tr {X : Cx} (B : SXOK X) (pn : List (Addr × Obj)) (xe : Value → Shared → Prop) (p : PassesOwn (model X.prog X.w) X.A X.env xe) : SXOK (X.tr pn xe) := ⟨⟨B.nd, B.un, B.bi⟩, p, B.okT, B.kind, B.stk, B.frm, B.ex0⟩
theorem SXOK.suite {X : Cx} (B : SXOK X) (a : Addr) (pn : List (Addr × Obj)) : SXOK (X.suite a pn) := ⟨⟨B.nd, B.un, B.bi⟩, PassesOwn.never, B.okT, B.kind, B.stk, B.frm, B.ex0⟩
/-- what except clauses do -/
def HsOk (n : Nat) (X : Cx) (hs : Hs) (hds : List ExceptHandler) : Prop := ∃ ls : List HX, HxOk X hds ls ∧
  ∀ (W : WX) (σ : St) (ρ : Ev) (F H : Hp) (fp : Nat → List Addr) (x : Ex) (C : Value) (d : Option Addr) (fl : Fl) (ρ' : Ev) (D : Ends), SOK (gl X) F H σ ρ fp → evHs n hs x ρ = some (fl, ρ') → RepX (gl X) F x C d → SPost (gl X) F H fp (asHs hs) σ D W ρ' fl → wX X.K W D ls C d σ H
section
variable {X : Cx} {W : WX} {n : Nat}
theorem hsOk_nil : HsOk n X .nil [] := ⟨[], .nil, fun W σ ρ F H fp x C d fl ρ' D S e r q => by
  rw [evHs] at e
  cases e
  exact q C d σ F H fp ⟨Step.refl S.sub, S, fun _ h => .inl h, Keeps.refl _ _⟩ r⟩
theorem clsAll_names {cs : List Str} {vs : List Value} (h : ClsAll (gx X) cs vs) : ∀ {es : List Expr}, namesB X.env.scope cs es = true → NamesAll X es vs := by
  induction cs generalizing vs with
  | nil =>
    intro es hn
    cases h
    simp only [namesB] at hn
    rw [isEmpty_nil hn]
    exact .nil
  | cons c cs ih =>
    intro es hn
    obtain ⟨a, r, rfl, h1, h2, h3⟩ := h
    simp only [namesB] at hn
    split at hn
    · simp only [Bool.and_eq_true, decide_eq_true_eq] at hn
      obtain ⟨rfl, h4, h5⟩ := hn
      exact .cons (gl_of h4) h1 h2 (ih h3 h5)
    · cases hn
theorem clsAll_len {g : Gx} : ∀ {cs : List Str} {vs : List Value}, ClsAll g cs vs → vs.length = cs.length
  | [], vs, h => by cases h; rfl
  | c :: cs, vs, h => by
    obtain ⟨a, r, rfl, _, _, h3⟩ := h
    rw [List.length_cons, List.length_cons, clsAll_len h3]
theorem namesAll_suite {a : Addr} {pn : List (Addr × Obj)} {es : List Expr} {vs : List Value} (h : NamesAll X es vs) : NamesAll (X.suite a pn) es vs := by
  induction h with
  | nil => exact .nil
  | cons g m d r ih => exact .cons g m d ih
theorem test_of {one : Bool} {cs : List Str} {vs : List Value} {tx : Expr} (h : ClsAll (gx X) cs vs) (ht : testB one cs X.env.scope tx = true) (a : Addr) (pn : List (Addr × Obj)) : TestOk (X.suite a pn) tx vs := by
  unfold testB at ht
  split at ht
  · simp only [Bool.and_eq_true, decide_eq_true_eq] at ht
    obtain ⟨_, rfl, h2⟩ := ht
    obtain ⟨C, r, rfl, h3, h4, h5⟩ := h
    cases h5
    exact .one (gl_of h2) h3 h4
  · simp only [Bool.and_eq_true, decide_eq_true_eq] at ht
    obtain ⟨_, h2, h3⟩ := ht
    exact .many (namesAll_suite (clsAll_names h h2)) (by rw [clsAll_len h]; exact h3)
  · cases ht
theorem nm_of {nm : Option Nat} {x : Option Str} (h : nmB X.N X.env.scope nm x = true) : NmOk X x nm := by
  cases nm with
  | none =>
    cases x with
    | none => trivial
    | some x => cases h
  | some i =>
    cases x with
    | none => cases h
    | some x =>
      simp only [nmB, Bool.and_eq_true, decide_eq_true_eq] at h
      refine ⟨h.1, ?_⟩
      have h2 := h.2
      unfold lclB at h2
      split at h2
      · assumption
      · cases h2
theorem SOK.drop {g : Gl} {F H : Hp} {σ : St} {ρ : Ev} {fp : Nat → List Addr} (S : SOK g F H σ ρ fp) (i : Nat) (v : Option V) : SOK g F H (σ.set i v) (ρ.set i none) (fun j => if j = i then [] else fp j) := by
  have S1 := S.hide i
  refine ⟨S1.sub, by simpa using S1.len, fun j p e => ?_, S1.nd, S1.dj, S1.emp⟩
  by_cases hj : j = i
  · subst hj
    by_cases hl : j < ρ.length
    · rw [List.getElem?_set_self hl] at e; cases e
    · rw [List.getElem?_eq_none (by rw [List.length_set]; omega)] at e; cases e
  · rw [List.getElem?_set_ne (Ne.symm hj)]
    exact S1.at_ j p e
theorem After.drop {g : Gl} {F H : Hp} {fp : Nat → List Addr} {asn asn2 : List Nat} {σ σ' : St} {ρ' : Ev} {F' H' : Hp} {fp' : Nat → List Addr} (a : After g F H fp asn σ σ' ρ' F' H' fp') (i : Nat) (hi : i ∈ asn2) (h : ∀ j ∈ asn, j ∈ asn2) : After g F H fp asn2 σ (σ'.set i none) (ρ'.set i none) F' H' (fun j => if j = i then [] else fp' j) :=
  ⟨a.s, a.S.drop i none, fun b hb => a.n b (own_hide hb), by rw [List.length_set]; exact a.k.1, fun j hj => by
    have hne : i ≠ j := fun e => hj (e ▸ hi)
    rw [List.getElem?_set_ne hne]
    exact a.k.2 j fun z => hj (h j z)⟩
theorem hsOk_cons {one : Bool} {cs : List Str} {tb : List (Str × Bool)} {nm : Option Nat} {suite : List S} {r : Hs} {tx : Expr} {x : Option Str} {b : Stmt} {bs : List Stmt} {pos : Pos} {rest : List ExceptHandler} (B : SXOK X) (ht : TbOk (gx X) cs tb) (h1 : testB one cs X.env.scope tx = true) (h2 : nmB X.N X.env.scope nm x = true)
    (hs : ∀ a pn, SoundSs (X.suite a pn) (fun _ _ _ _ => False) (b :: bs) (asSs suite) (evSs n suite)) (hr : HsOk n X r rest) : HsOk n X (.cons one cs tb nm suite r) (.ExceptHandler (some tx) x (b :: bs) pos :: rest) := by
  obtain ⟨vs, c1, c2⟩ := ht
  obtain ⟨ls, l1, l2⟩ := hr
  refine ⟨(vs, nm, fun a k d D σ H => ∀ pn, WPSs (X.suite a pn) (b :: bs) D σ H) :: ls, .cons (fun a pn => test_of c1 h1 a pn) (nm_of h2) (fun a k d pn => ⟨fun pins s σ H D I h => h pn pins s I⟩) l1, ?_⟩
  intro W σ ρ F H fp x C d fl ρ' D S e rx q
  have m1 : ∀ j ∈ asHs r, j ∈ asHs (.cons one cs tb nm suite r) := fun j h => by rw [asHs.eq_def]; exact List.mem_append_right _ h
  have m2 : ∀ j ∈ asSs suite, j ∈ asHs (.cons one cs tb nm suite r) := fun j h => by rw [asHs.eq_def]; exact List.mem_append_left _ (List.mem_append_right _ h)
  have m3 : ∀ i, nm = some i → i ∈ asHs (.cons one cs tb nm suite r) := fun i h => by rw [asHs.eq_def]; exact List.mem_append_left _ (List.mem_append_left _ (by rw [h]; simp))
  obtain ⟨Ca, ws, rfl, g1, g2, g3, g4⟩ := rx
  simp only [evHs] at e
  cases hb : tb.lookup x.c with
  | none => rw [hb] at e; cases e
  | some bb =>
    rw [hb] at e
    refine ⟨bb, c2 _ _ hb _ g1, fun hbt => ?_, fun hbf => ?_⟩
    · subst hbt
      dsimp only at e
      intro a na
      have s0 : Step F H (fun _ => False) (upd F a (XO (.ref Ca) d a)) (upd H a (XO (.ref Ca) d a)) := step_new S.sub na
      have S0 := S.stay s0 fun _ _ z => z
      have rep : RepD (gl X) (upd F a (XO (.ref Ca) d a)) (.exc x.c x.ns x.ds) (.ref a) := by
        unfold RepD
        exact ⟨a, Ca, d, ws, rfl, g1, upd_same, g2.mono s0.mono, g3, g4.mono s0.mono⟩
      have so : Step F H (Own fp) (upd F a (XO (.ref Ca) d a)) (upd H a (XO (.ref Ca) d a)) := ⟨s0.mono, s0.sub, fun c u e _ => s0.keep c u e id, fun c u e => (s0.newF c u e).elim .inl fun z => z.elim (fun z => .inr (.inl z)) False.elim⟩
      cases nm with
      | none =>
        simp only [suiteI] at e
        show ∀ pn, WPSs (X.suite a pn) (b :: bs) D σ (upd H a (XO (.ref Ca) d a))
        intro pn
        cases e2 : evSs n suite ρ with
        | none => rw [e2] at e; cases e
        | some z =>
          obtain ⟨fl2, ρ2⟩ := z
          rw [e2] at e
          have A0 : After (gl X) F H fp (asHs (.cons one cs tb none suite r)) σ σ ρ (upd F a (XO (.ref Ca) d a)) (upd H a (XO (.ref Ca) d a)) fp := ⟨so, S0, fun _ h => .inl h, Keeps.refl _ _⟩
          have q2 := SPost.after A0 m2 q
          cases fl2 with
          | ex z => cases e
          | nx => cases e; exact hs a pn σ ρ _ _ fp .nx _ D S0 e2 q2
          | bk => cases e; exact hs a pn σ ρ _ _ fp .bk _ D S0 e2 q2
          | ct => cases e; exact hs a pn σ ρ _ _ fp .ct _ D S0 e2 q2
          | rt o => cases e; exact hs a pn σ ρ _ _ fp (.rt o) _ D S0 e2 q2
      | some i =>
        simp only [suiteI] at e
        split at e
        · rename_i ρ1 eρ
          split at eρ
          · rename_i hi
            cases eρ
            show ∀ pn, WPSs (X.suite a pn) (b :: bs) (endOf D i) (σ.set i (some (.ref a))) (upd H a (XO (.ref Ca) d a))
            intro pn
            have S1 := S0.store hi (o := .p (.exc x.c x.ns x.ds)) (v := .ref a) (fr := []) (by unfold RepO; exact ⟨rep, rfl⟩) List.nodup_nil (by simp)
            have A1 : After (gl X) F H fp (asHs (.cons one cs tb (some i) suite r)) σ (σ.set i (some (.ref a))) (ρ.set i (some (.p (.exc x.c x.ns x.ds)))) (upd F a (XO (.ref Ca) d a)) (upd H a (XO (.ref Ca) d a)) (fun j => if j = i then [] else fp j) :=
              ⟨so, S1, fun c hc => .inl (own_hide hc), by rw [List.length_set], fun j hj => List.getElem?_set_ne fun e => hj (by rw [← e]; exact m3 i rfl)⟩
            cases e2 : evSs n suite (ρ.set i (some (.p (.exc x.c x.ns x.ds)))) with
            | none => rw [e2] at e; cases e
            | some z =>
              obtain ⟨fl2, ρ2⟩ := z
              rw [e2] at e
              cases fl2 with
              | ex z => cases e
              | nx =>
                cases e
                exact hs a pn _ _ _ _ _ .nx _ (endOf D i) S1 e2 fun σ' F' H' fp' b => q _ F' H' _ ((A1.after b m2).drop i (m3 i rfl) fun _ h => h)
              | bk =>
                cases e
                exact hs a pn _ _ _ _ _ .bk _ (endOf D i) S1 e2 fun σ' F' H' fp' b => q _ F' H' _ ((A1.after b m2).drop i (m3 i rfl) fun _ h => h)
              | ct =>
                cases e
                exact hs a pn _ _ _ _ _ .ct _ (endOf D i) S1 e2 fun σ' F' H' fp' b => q _ F' H' _ ((A1.after b m2).drop i (m3 i rfl) fun _ h => h)
              | rt o =>
                cases e
                exact hs a pn _ _ _ _ _ (.rt o) _ (endOf D i) S1 e2 fun v σ' F' H' fp' fr b rv nd nf => q v _ F' H' _ fr ((A1.after b m2).drop i (m3 i rfl) fun _ h => h) rv nd fun c hc => ⟨own_trans A1.s A1.n (own2 := fun b => b ∈ fr) (fun b hb => (nf b hb).1) c hc, fun z => (nf c hc).2 (own_hide z)⟩
          · cases eρ
        · cases e
    · subst hbf
      exact l2 W σ ρ F H fp x _ d fl ρ' D S e ⟨Ca, ws, rfl, g1, g2, g3, g4⟩ (SPost.after ⟨Step.refl S.sub, S, fun _ h => .inl h, Keeps.refl _ _⟩ m1 q)
theorem sound_try {body : List S} {hs : Hs} {bd : List Stmt} {h0 : ExceptHandler} {hds : List ExceptHandler} {pos : Pos} {ls : List HX} (B : SXOK X) (tk : Takes X W)
    (hb : ∀ (W2 : WX) (pn : List (Addr × Obj)) (xe : Value → Shared → Prop), Takes (X.tr pn xe) W2 → PassesOwn (model X.prog X.w) X.A X.env xe → SoundSs (X.tr pn xe) W2 bd (asSs body) (evSs n body)) (k1 : HxOk X (h0 :: hds) ls)
    (k2 : ∀ (W2 : WX) (σ : St) (ρ : Ev) (F H : Hp) (fp : Nat → List Addr) (x : Ex) (C : Value) (d : Option Addr) (fl : Fl) (ρ' : Ev) (D : Ends), SOK (gl X) F H σ ρ fp → evHs n hs x ρ = some (fl, ρ') → RepX (gl X) F x C d → SPost (gl X) F H fp (asHs hs) σ D W2 ρ' fl → wX X.K W2 D ls C d σ H) :
    SoundS X W (.Try bd (h0 :: hds) [] [] pos) (asSs body ++ asHs hs) (evS n (.try_ body hs)) := fun σ ρ F H fp fl ρ' D S e q => by
  refine wps_of (ps_try_x (tb := fun W2 D σ H => ∀ pn xe, Takes (X.tr pn xe) W2 → PassesOwn (model X.prog X.w) X.A X.env xe → WPSs (X.tr pn xe) bd D σ H) B.stk B.frm B.ex0 B.nd tk (fun W2 pn xe t p => ⟨fun pins s σ H D I h => h pn xe t p pins s I⟩) k1) ?_
  intro pn xe t p
  have m1 : ∀ j ∈ asSs body, j ∈ asSs body ++ asHs hs := fun j h => List.mem_append_left _ h
  have m2 : ∀ j ∈ asHs hs, j ∈ asSs body ++ asHs hs := fun j h => List.mem_append_right _ h
  rw [evS] at e
  cases e1 : evSs n body ρ with
  | none => rw [e1] at e; cases e
  | some z =>
    obtain ⟨fl1, ρ1⟩ := z
    rw [e1] at e
    have snd := hb _ pn xe t p
    cases fl1 with
    | ex x => exact snd σ ρ F H fp (.ex x) ρ1 D S e1 fun C d σ' F' H' fp' a r => k2 W σ' ρ1 F' H' fp' x C d fl ρ' D a.S e r (SPost.after ⟨a.s, a.S, a.n, a.k.mono m1⟩ m2 q)
    | nx => cases e; exact snd σ ρ F H fp .nx _ D S e1 fun σ' F' H' fp' a => q σ' F' H' fp' ⟨a.s, a.S, a.n, a.k.mono m1⟩
    | bk => cases e; exact snd σ ρ F H fp .bk _ D S e1 fun σ' F' H' fp' a => q σ' F' H' fp' ⟨a.s, a.S, a.n, a.k.mono m1⟩
    | ct => cases e; exact snd σ ρ F H fp .ct _ D S e1 fun σ' F' H' fp' a => q σ' F' H' fp' ⟨a.s, a.S, a.n, a.k.mono m1⟩
    | rt o => cases e; exact snd σ ρ F H fp (.rt o) _ D S e1 fun v σ' F' H' fp' fr a => q v σ' F' H' fp' fr ⟨a.s, a.S, a.n, a.k.mono m1⟩
end
mutual
theorem soundS (n : Nat) : ∀ (s : S) {X : Cx} {W : WX} {st : Stmt}, SXOK X → Takes X W → CallsS (gx X) s → chkS X.N s X.env.scope st = true → SoundS X W st (asS s) (evS n s)
  | .asg i e, X, W, st, B, tk, hc, h => by
    have r := soundS_asg (n := n) B tk (by simpa only [CallsS] using hc) h
    unfold asS
    exact r
  | .asgT is e, X, W, st, B, tk, hc, h => by
    simp only [chkS] at h
    simp only [CallsS] at hc
    split at h
    · simp only [Bool.and_eq_true] at h
      obtain ⟨h1, h2, h3⟩ := h
      unfold asS
      exact sound_asgT B hc.1 h1 h2 (soundOs [e] B.toXOK tk (by simp only [CallsEs]; exact ⟨hc.2, trivial⟩) h3)
    · cases h
  | .asgO is e, X, W, st, B, tk, hc, h => by
    simp only [chkS] at h
    simp only [CallsS] at hc
    split at h
    · simp only [Bool.and_eq_true] at h
      obtain ⟨h1, h2, h3⟩ := h
      unfold asS
      exact sound_asgO B hc.1 h1 h2 (soundE e B.toXOK tk hc.2 h3)
    · cases h
  | .seti i k v, X, W, st, B, tk, hc, h => by
    simp only [chkS] at h
    simp only [CallsS] at hc
    split at h
    · simp only [Bool.and_eq_true] at h
      obtain ⟨h1, h2, h3, h4⟩ := h
      unfold asS
      exact sound_seti h1 h2 (soundE k B.toXOK tk hc.1 h3) (soundE v B.toXOK tk hc.2 h4)
    · cases h
  | .app i e, X, W, st, B, tk, hc, h => by
    simp only [chkS] at h
    simp only [CallsS] at hc
    split at h
    · simp only [Bool.and_eq_true, decide_eq_true_eq] at h
      obtain ⟨h1, rfl, h2, h3, h4⟩ := h
      unfold asS
      exact sound_app h1 h2 h3 (soundE e B.toXOK tk hc h4)
    · cases h
  | .appin i k e, X, W, st, B, tk, hc, h => by
    simp only [chkS] at h
    simp only [CallsS] at hc
    split at h
    · simp only [Bool.and_eq_true, decide_eq_true_eq] at h
      obtain ⟨h1, h2, h3, rfl, h4, h5, h6⟩ := h
      unfold asS
      exact sound_appin h1 h3 h4 h5 (soundE k B.toXOK tk hc.1 h2) (soundE e B.toXOK tk hc.2 h6)
    · cases h
  | .appinV i k e, X, W, st, B, tk, hc, h => by
    simp only [chkS] at h
    simp only [CallsS] at hc
    split at h
    · simp only [Bool.and_eq_true, decide_eq_true_eq] at h
      obtain ⟨h1, h2, h3, rfl, h4, h5, h6⟩ := h
      unfold asS
      exact sound_appinV h1 h3 h4 h5 (soundE k B.toXOK tk hc.1 h2) (soundE e B.toXOK tk hc.2 h6)
    · cases h
  | .setin i k j v, X, W, st, B, tk, hc, h => by
    simp only [chkS] at h
    simp only [CallsS] at hc
    split at h
    · simp only [Bool.and_eq_true, decide_eq_true_eq] at h
      obtain ⟨h1, h2, h3, h4, h5, h6⟩ := h
      unfold asS
      exact sound_setin h1 h2 h3 (soundE k B.toXOK tk hc.1 h4) (soundE j B.toXOK tk hc.2.1 h5) (soundE v B.toXOK tk hc.2.2 h6)
    · cases h
  | .rse c, X, W, st, B, tk, hc, h => by
    simp only [chkS] at h
    simp only [CallsS] at hc
    split at h
    · simp only [Bool.and_eq_true, decide_eq_true_eq] at h
      obtain ⟨rfl, h2⟩ := h
      unfold asS
      exact sound_rse B hc.1 tk hc.2 h2
    · cases h
  | .smut p i es j, X, W, st, B, tk, hc, h => by
    simp only [chkS] at h
    simp only [CallsS] at hc
    split at h
    · rename_i o xs nm e1
      simp only [Bool.and_eq_true] at h
      unfold asS
      exact sound_smut B.toXOK hc.1 e1 h.1 h.2.2 (soundOs es B.toXOK tk hc.2 h.2.1)
    · cases h
  | .smutL p i es, X, W, st, B, tk, hc, h => by
    simp only [chkS] at h
    simp only [CallsS] at hc
    split at h
    · rename_i o xs e1
      simp only [Bool.and_eq_true] at h
      unfold asS
      exact sound_smutL B.toXOK hc.1 e1 h.1 (soundOs es B.toXOK tk hc.2 h.2)
    · cases h
  | .seto p i e j, X, W, st, B, tk, hc, h => by
    simp only [chkS] at h
    simp only [CallsS] at hc
    split at h
    · rename_i o x nm e1
      simp only [Bool.and_eq_true] at h
      unfold asS
      exact sound_seto B.toXOK hc.1 e1 h.1 h.2.2 (soundE e B.toXOK tk hc.2 h.2.1)
    · cases h
  | .rsp p es, X, W, st, B, tk, hc, h => by
    simp only [chkS] at h
    simp only [CallsS] at hc
    split at h
    · rename_i xs e1
      unfold asS
      exact sound_rsp B.toXOK hc.1 tk hc.2.1 e1 (soundOs es B.toXOK tk hc.2.2 h)
    · cases h
  | .nev, X, W, st, B, tk, hc, h => fun σ ρ F H fp fl ρ' D S ev q => by
    rw [evS] at ev
    cases ev
  | .ex e, X, W, st, B, tk, hc, h => by
    have r := soundS_drop (n := n) B tk (by simpa only [CallsS] using hc) h
    unfold asS
    exact r
  | .ife t a b, X, W, st, B, tk, hc, h => by
    simp only [chkS] at h
    simp only [CallsS] at hc
    split at h
    · simp only [Bool.and_eq_true] at h
      exact sound_ife (soundT t B.toXOK tk hc.1 h.1) (soundSs n a B tk hc.2.1 h.2.1) (soundSs n b B tk hc.2.2 h.2.2)
    · cases h
  | .for_ g k src body, X, W, st, B, tk, hc, h => by
    simp only [chkS] at h
    simp only [CallsS] at hc
    split at h
    · simp only [Bool.and_eq_true] at h
      obtain ⟨h1, h2, h3⟩ := h
      split at h2
      · rename_i xs e1
        unfold asS
        exact sound_for B hc.1 hc.2.1 h1 e1 (soundOs src B.toXOK tk hc.2.2.1 h2) (soundSs n body B tk hc.2.2.2 h3)
      · cases h2
    · cases h
  | .whl t body, X, W, st, B, tk, hc, h => by
    simp only [chkS] at h
    simp only [CallsS] at hc
    split at h
    · simp only [Bool.and_eq_true] at h
      unfold asS
      exact sound_whl B (soundT t B.toXOK tk hc.1 h.1) (soundSs n body B tk hc.2 h.2)
    · cases h
  | .ret e, X, W, st, B, tk, hc, h => by
    simp only [chkS] at h
    simp only [CallsS] at hc
    split at h
    · unfold asS
      exact sound_ret (soundE e B.toXOK tk hc h)
    · cases h
  | .retN, X, W, st, B, tk, hc, h => by
    simp only [chkS] at h
    split at h
    · unfold asS
      exact sound_retN
    · cases h
  | .pass, X, W, st, B, tk, hc, h => by
    simp only [chkS] at h
    split at h
    · unfold asS
      exact sound_pass
    · cases h
  | .brk, X, W, st, B, tk, hc, h => by
    simp only [chkS] at h
    split at h
    · unfold asS
      exact sound_brk
    · cases h
  | .cnt, X, W, st, B, tk, hc, h => by
    simp only [chkS] at h
    split at h
    · unfold asS
      exact sound_cnt
    · cases h
  | .fz i, X, W, st, B, tk, hc, h => by
    simp only [chkS] at h
    cases h
  | .kill is, X, W, st, B, tk, hc, h => by
    simp only [chkS] at h
    cases h
  | .try_ body hs, X, W, st, B, tk, hc, h => by
    simp only [chkS] at h
    simp only [CallsS] at hc
    split at h
    · rename_i b h0 hds pos
      simp only [Bool.and_eq_true] at h
      obtain ⟨ls, k1, k2⟩ := soundHs n hs B hc.2 h.2
      rw [show asS (.try_ body hs) = asSs body ++ asHs hs by rw [asS]]
      exact sound_try B tk (fun W2 pn xe t2 p2 => soundSs n body (B.tr pn xe p2) t2 hc.1 h.1) k1 fun W2 => k2 W2
    · cases h
theorem soundSs (n : Nat) : ∀ (ss : List S) {X : Cx} {W : WX} {sts : List Stmt}, SXOK X → Takes X W → CallsSs (gx X) ss → chkSs X.N ss X.env.scope sts = true → SoundSs X W sts (asSs ss) (evSs n ss)
  | [], X, W, sts, B, tk, hc, h => by
    have : sts = [] := by
      simp only [chkSs] at h
      exact List.isEmpty_iff.mp h
    subst this
    exact soundSs_nil
  | s :: ss, X, W, sts, B, tk, hc, h => by
    simp only [CallsSs] at hc
    by_cases hf : ∃ i, s = .fz i
    · obtain ⟨i, rfl⟩ := hf
      rw [chkSs.eq_def] at h
      dsimp only at h
      exact soundSs_fz (soundSs n ss B tk hc.2 h)
    by_cases hk : ∃ is, s = .kill is
    · obtain ⟨is, rfl⟩ := hk
      rw [chkSs.eq_def] at h
      dsimp only at h
      exact soundSs_kill (soundSs n ss B tk hc.2 h)
    · have h' : ∃ st r, sts = st :: r ∧ chkS X.N s X.env.scope st = true ∧ chkSs X.N ss X.env.scope r = true := by
        rw [chkSs.eq_def] at h
        split at h
        · rename_i e; cases e
        · rename_i e
          cases e
          exact absurd ⟨_, rfl⟩ hf
        · rename_i e
          cases e
          exact absurd ⟨_, rfl⟩ hk
        · rename_i e
          cases e
          split at h
          · simp only [Bool.and_eq_true] at h
            exact ⟨_, _, rfl, h.1, h.2⟩
          · cases h
      obtain ⟨st, r, rfl, h1, h2⟩ := h'
      exact soundSs_cons (soundS n s B tk hc.1 h1) (soundSs n ss B tk hc.2 h2)
theorem soundHs (n : Nat) : ∀ (hs : Hs) {X : Cx} {hds : List ExceptHandler}, SXOK X → CallsHs (gx X) hs → chkHs X.N hs X.env.scope hds = true → HsOk n X hs hds
  | .nil, X, hds, B, hc, h => by
    have : hds = [] := by
      simp only [chkHs] at h
      exact List.isEmpty_iff.mp h
    subst this
    exact hsOk_nil
  | .cons one cs tb nm suite r, X, hds, B, hc, h => by
    simp only [CallsHs] at hc
    simp only [chkHs] at h
    split at h
    · simp only [Bool.and_eq_true] at h
      obtain ⟨h1, h2, h3, h4⟩ := h
      exact hsOk_cons B hc.1 h1 h2 (fun a pn => soundSs n suite (B.suite a pn) takes_no (hc.2.1 a) h3) (soundHs n r B hc.2.2 h4)
    · cases h
end
end DV
namespace DV
open PySem PySem.Spec PyProof.Rows L2
/-- what a parameter comes back as -/
def finB (asn : List Nat) : Nat → Nat → Ev → List (Option O)
  | 0, _, _ => []
  | n + 1, i, ρ => (if i ∈ asn then none else ρ.getD i none) :: finB asn n (i + 1) ρ
def ini (N n : Nat) (os : List O) : Ev := os.map some ++ List.replicate (N - n) none
def semOf (N n : Nat) (ir : List S) (fuel : Nat) : FS := fun os => if os.length = n then match evSs fuel ir (ini N n os) with
  | some (.nx, ρ) => some (.ok (.p .non), finB (asSs ir) n 0 ρ)
  | some (.rt o, ρ) => some (.ok o, finB (asSs ir) n 0 ρ)
  | some (.ex x, ρ) => some (.ex x, finB (asSs ir) n 0 ρ)
  | _ => none else none
theorem finB_length {asn : List Nat} : ∀ {n i : Nat} {ρ : Ev}, (finB asn n i ρ).length = n
  | 0, _, _ => rfl
  | n + 1, i, ρ => by unfold finB; rw [List.length_cons, finB_length]
theorem finB_get {asn : List Nat} : ∀ {n i : Nat} {ρ : Ev} {j : Nat}, j < n → (finB asn n i ρ)[j]? = some (if i + j ∈ asn then none else ρ.getD (i + j) none)
  | 0, _, _, _, h => absurd h (Nat.not_lt_zero _)
  | n + 1, i, ρ, 0, h => by unfold finB; rfl
  | n + 1, i, ρ, j + 1, h => by
    unfold finB
    rw [List.getElem?_cons_succ, finB_get (by omega)]
    have : i + 1 + j = i + (j + 1) := by omega
    rw [this]
theorem start_get {N : List Str} {vs : List V} {i : Nat} (h : i < vs.length) : (L2.start N vs)[i]? = (vs.map some)[i]? := by
  unfold L2.start
  rw [List.getElem?_append_left (by simpa using h)]
theorem ini_get {N n : Nat} {os : List O} {i : Nat} {o : O} (h : (ini N n os)[i]? = some (some o)) : (os.map some)[i]? = some (some o) := by
  unfold ini at h
  by_cases hi : i < os.length
  · rw [List.getElem?_append_left (by simpa using hi)] at h
    exact h
  · rw [List.getElem?_append_right (by simpa using hi), List.getElem?_replicate] at h
    split at h <;> cases h
theorem sok_start {g : Gl} {F H : Hp} {vs : List V} {os : List O} {fp : Nat → List Addr} (N : List Str) (n : Nat) (S : SOK g F H (vs.map some) (os.map some) fp) (hn : vs.length = n) : SOK g F H (L2.start N vs) (ini N.length n os) fp := by
  have l : os.length = vs.length := by simpa using S.len
  refine ⟨S.sub, ?_, fun i o h => ?_, S.nd, S.dj, fun i h => S.emp i fun o ho => h o ?_⟩
  · unfold ini L2.start
    simp [l, hn]
  · have h1 := ini_get h
    obtain ⟨v, hv, r⟩ := S.at_ i o h1
    refine ⟨v, ?_, r⟩
    rw [start_get, hv]
    have := (List.getElem?_eq_some_iff.mp hv).1
    simpa using this
  · unfold ini
    have hi := (List.getElem?_eq_some_iff.mp ho).1
    rw [List.getElem?_append_left hi]
    exact ho
theorem sok_fin {g : Gl} {F0 H0 F H : Hp} {fp0 : Nat → List Addr} {asn : List Nat} {N : List Str} {vs : List V} {n : Nat} {σ : St} {ρ : Ev} {fp : Nat → List Addr} (a : After g F0 H0 fp0 asn (L2.start N vs) σ ρ F H fp) (hn : vs.length = n) :
    SOK g F H (vs.map some) (finB asn n 0 ρ) (fun i => if i < n ∧ i ∉ asn then fp i else []) := by
  refine ⟨a.S.sub, by rw [finB_length, List.length_map, hn], fun i o h => ?_, fun i => ?_, fun i j b hi hj => ?_, fun i h => ?_⟩
  · have hi : i < n := by
      have := (List.getElem?_eq_some_iff.mp h).1
      rwa [finB_length] at this
    rw [finB_get hi, Nat.zero_add] at h
    by_cases ha : i ∈ asn
    · rw [if_pos ha] at h; cases h
    · rw [if_neg ha] at h
      have h2 : ρ[i]? = some (some o) := by
        rw [List.getD_eq_getElem?_getD] at h
        cases e : ρ[i]? with
        | none => rw [e] at h; cases h
        | some q =>
          rw [e] at h
          exact h
      obtain ⟨v, hv, r⟩ := a.S.at_ i o h2
      rw [if_pos ⟨hi, ha⟩]
      rw [a.k.2 i ha, start_get (by omega)] at hv
      exact ⟨v, hv, r⟩
  · split
    · exact a.S.nd i
    · exact List.nodup_nil
  · split at hi
    · split at hj
      · exact a.S.dj i j b hi hj
      · cases hj
    · cases hi
  · split
    · rename_i q
      refine a.S.emp i fun o ho => h o ?_
      rw [finB_get q.1, Nat.zero_add, if_neg q.2, List.getD_eq_getElem?_getD, ho]
      rfl
    · rfl
/-- THE RULE: a def of the text, by a text that this row stands for -/
theorem fn_sound {P : Program} {w : World} {K : PySem.W.Frag} {mg : Str → Option Value} {base : Heap} {x qual : Str} {params : Arguments} {body : List Stmt} {scope : Scope} {dvs : List V} {kws : List (Str × V)} {f : Addr} {fd : FuncData}
    {N ps : List Str} {k : Nat} (F : FunD K x qual params body scope dvs kws f fd) (S : FnScope N ps scope) (ir : List DV.S) (sem : FS) (chk : chkSs N ir scope body = true)
    (calls : ∀ A : Around, Room k A → CallsSs ⟨P, w, K, mg, base, A, true⟩ ir) (bi : ∀ n ∈ biNames, mg n = none) (hsem : ∀ os r, sem os = some r → ∃ fuel, semOf N.length ps.length ir fuel os = some r) :
    FnOk P w K mg base (CX P w) (k + 1) f fd ps (spOf ⟨K, mg, w⟩ ps.length sem) := by
  refine F.ok S (fun vs H Q E h => h.1) fun cdv A outer s H vs Q E hr h => ?_
  obtain ⟨hl, F0, os, fp, r, bs, S0, hs, q⟩ := h
  obtain ⟨fuel, hf⟩ := hsem _ _ hs
  unfold semOf at hf
  split at hf
  · rename_i ho
    have B : SXOK (cxOf (CX P w) P w K mg base N qual scope f cdv A outer s H E) := ⟨⟨S.nd, by have := (hr.mono (Nat.zero_le k)).un; rw [Nat.mul_zero, Nat.add_zero] at this; exact this, bi⟩, passes_of rfl, (fun x h => by
      refine ⟨?_, .inl rfl⟩
      unfold locB at h
      split at h
      · exact .inl ‹_›
      · exact .inr ‹_›
      · exact absurd h (by decide)), S.kind, rfl, rfl, rfl⟩
    have T : Takes (cxOf (CX P w) P w K mg base N qual scope f cdv A outer s H E) (fun C d _ H' => E C d H') := takes_of rfl rfl rfl rfl
    have snd := soundSs fuel ir B T (calls _ hr) chk
    have S1 := sok_start N ps.length S0 hl
    refine ⟨_, pss_wp, ?_⟩
    have own' : ∀ {fp' : Nat → List Addr} {b : Addr}, Own (fun i => if i < ps.length ∧ i ∉ asSs ir then fp' i else []) b → Own fp' b := fun {fp' b} ⟨i, hi⟩ => by
      dsimp only at hi
      split at hi
      · exact ⟨i, hi⟩
      · cases hi
    split at hf
    · rename_i ρ e
      cases hf
      refine snd _ _ F0 H fp .nx ρ _ S1 e fun σ' F' H' fp' a => ?_
      exact q .non F' H' _ [] a.s (sok_fin a hl) (fun b hb => a.n b (own' hb)) (by unfold RepO RepD; exact ⟨rfl, rfl⟩) List.nodup_nil (by simp)
    · rename_i o ρ e
      cases hf
      refine snd _ _ F0 H fp (.rt o) ρ _ S1 e fun v σ' F' H' fp' fr a rv nd nf => ?_
      exact q v F' H' _ fr a.s (sok_fin a hl) (fun b hb => a.n b (own' hb)) rv nd fun b hb => ⟨(nf b hb).1, fun z => (nf b hb).2 (own' z)⟩
    · rename_i z ρ e
      cases hf
      refine snd _ _ F0 H fp (.ex z) ρ _ S1 e fun C d σ' F' H' fp' a rx => ?_
      exact q C d F' H' _ a.s (sok_fin a hl) (fun b hb => a.n b (own' hb)) rx
    · cases hf
  · cases hf
end DV
namespace DV
open PySem PySem.Spec PyProof.Rows L2
section
variable {tl : List Tab} {xf : List Xf} {fa : List He.Fa} {fn : List He.DefD} {K : PySem.W.Frag}
theorem SaysX.says (c : SaysX tl xf fa fn K) : He.SaysD fa fn K := congrArg (fun z : AlX => z.2) c
theorem SaysX.both (c : SaysX tl xf fa fn K) : ((tl.all fun p => (He.Fa.glo p.1).ok K && (He.tupB K p.1 p.2 && bareT K p.1)) && (xf.all fun x => x.ok K)) = true := congrArg (fun z : AlX => z.1) c
theorem SaysX.tab (c : SaysX tl xf fa fn K) (i : Nat) {p : Tab} (h : tl[i]? = some p := by rfl) : (He.Fa.glo p.1).ok K = true ∧ (He.tupB K p.1 p.2 && bareT K p.1) = true :=
  He.ba (List.all_eq_true.mp (He.ba c.both).1 p (List.mem_of_getElem? h))
end
def dvD : List He.Dv → Option (List D)
  | [] => some []
  | .str z :: r => (dvD r).map (.str z :: ·)
  | .int z :: r => (dvD r).map (.int z :: ·)
  | _ => none
theorem dvD_rep {K : PySem.W.Frag} {mg : Str → Option Value} {w : World} {F : Hp} : ∀ {vs : List He.Dv} {ds : List D}, dvD vs = some ds → RepDs ⟨K, mg, w⟩ F ds (vs.map (He.Dv.v K))
  | [], ds, h => by
    cases h
    unfold RepDs
    rfl
  | v :: vs, ds, h => by
    cases v with
    | str z =>
      unfold dvD at h
      cases e : dvD vs with
      | none => rw [e] at h; cases h
      | some r =>
        rw [e] at h
        cases h
        unfold RepDs
        exact ⟨_, _, rfl, by unfold RepD; rfl, dvD_rep e⟩
    | int z =>
      unfold dvD at h
      cases e : dvD vs with
      | none => rw [e] at h; cases h
      | some r =>
        rw [e] at h
        cases h
        unfold RepDs
        exact ⟨_, _, rfl, by unfold RepD; rfl, dvD_rep e⟩
    | _ => cases h
theorem globOk_tup {g : Gx} {x : Str} {vs : List He.Dv} {ds : List D} (h : g.mg x = some (.ref (He.ga g.K x))) (ht : He.tupB g.K x vs = true) (hd : dvD vs = some ds) (hx : (x == ("__debug__" : Str)) = false) : GlobOk g x (.tup ds) := by
  refine ⟨_, .ref (He.ga g.K x), h, rfl, fun F => ?_, hx⟩
  unfold RepD
  exact ⟨_, _, rfl, He.tupB_ok ht F, dvD_rep hd⟩
theorem callOk_of {P : Program} {w : World} {K : PySem.W.Frag} {mg : Str → Option Value} {base : Heap} {A : Around} {f : Str} {a : Addr} {fd : FuncData} {ps : List Str} {sem : FS} {k n : Nat} (F : FnOk P w K mg base (CX P w) k a fd ps (spOf ⟨K, mg, w⟩ ps.length sem))
    (kp : PySem.W.keepIn K (.ref a) = true) (hb : Binds K fd ps []) (hm : mg f = some (.ref a)) (hn : ps.length = n) (hr : Room k A) (hx : (f == ("__debug__" : Str)) = false) : CallOk ⟨P, w, K, mg, base, A, true⟩ f [] sem n :=
  ⟨⟨a, fd, ps, [], [], k, hm, kp, hb, .nil, fun F => by unfold RepDs; rfl, by rw [hn]; rfl, F, hr, hx⟩⟩
theorem repDs_ints {g : Gl} {F : Hp} : ∀ (ns : List Int), RepDs g F (ns.map .int) (ns.map V.int)
  | [] => by unfold RepDs; rfl
  | n :: ns => by
    show RepDs g F (.int n :: ns.map .int) (V.int n :: ns.map V.int)
    unfold RepDs
    exact ⟨_, _, rfl, repD_int, repDs_ints ns⟩
theorem law_end {K : PySem.W.Frag} {mg : Str → Option Value} {w : World} {H : Hp} {a : Addr} {ns : List Int} {sem : FS} {bs : List (Option O)} (hS : SqL K H a (ns.map V.int)) (h : sem [.p (.lst (ns.map .int))] = some (.ok (.p (.bl true)), bs)) :
    spOf ⟨K, mg, w⟩ 1 sem [.ref a] H (fun v _ => v = .bl true) (fun _ _ _ => False) := by
  refine ⟨rfl, H, [.p (.lst (ns.map .int))], fun _ => [], _, bs, ⟨Sub.refl H, rfl, fun i o h => ?_, fun _ => List.nodup_nil, fun _ _ _ h => absurd h (by simp), fun _ _ => rfl⟩, h, ?_⟩
  · cases i with
    | zero =>
      cases h
      refine ⟨.ref a, rfl, ?_⟩
      unfold RepO
      refine ⟨?_, rfl⟩
      unfold RepD
      exact ⟨a, _, rfl, hS, repDs_ints ns⟩
    | succ i => simp at h
  · intro v F' H' fp' fr s S n r nd nf
    exact (repO_p r).bl'
theorem noCX {P : Program} {w : World} (H : Hp) (s : Shared) (e : Value) (s' : Shared) : CX P w [] H s (fun _ _ _ => False) e s' → False := fun ⟨_, _, _, _, _, _, _, _, _, _, _, _, z⟩ => z
theorem fn_none {P : Program} {w : World} {K : PySem.W.Frag} {mg : Str → Option Value} {base : Heap} {f : Addr} {fd : FuncData} {ps : List Str} {k : Nat} : FnOk P w K mg base (CX P w) k f fd ps (spOf ⟨K, mg, w⟩ ps.length (fun _ => none)) :=
  ⟨fun vs H Q E h => h.1, fun A outer s H args us vs Q E hr e0 hb r ⟨_, F, os, fp, rr, bs, _, z, _⟩ => by cases z⟩
end DV
namespace DV
open PySem PySem.Spec PyProof.Rows L2
def isLst : O → Bool
  | .lst _ => true
  | _ => false
def lstEv (f : List D → List O → Option (List D × D)) : O → List O → Option (O × D)
  | .lst ds, os => match f ds os with
    | some (ds', d) => some (.lst ds', d)
    | none => none
  | _, _ => none
theorem RepVs.length {g : Gl} {F H : Hp} : ∀ {os : List O} {vs : List V}, RepVs g F H os vs → os.length = vs.length
  | [], vs, h => by cases h; rfl
  | o :: os, vs, h => by
    obtain ⟨v, r, as, rfl, _, h2⟩ := h
    rw [List.length_cons, List.length_cons, RepVs.length h2]
def mvInsert (ds : List D) : List O → Option (List D × D)
  | [.p (.int i), .p d] => if 0 ≤ i ∧ i < 2 ^ 62 ∧ ds.length < sizeLine then some (ds.take i.toNat ++ [d] ++ ds.drop i.toNat, .non) else none
  | _ => none
def mvPopAt (ds : List D) : List O → Option (List D × D)
  | [.p (.int i)] => match L2.ixN ds.length i with
    | some k => match ds[k]? with
      | some d => if -(2 ^ 63) ≤ i ∧ i < 2 ^ 63 then some (ds.eraseIdx k, d) else none
      | none => none
    | none => none
  | _ => none
def mvPop (ds : List D) : List O → Option (List D × D)
  | [] => match ds[ds.length - 1]? with
    | some d => some (ds.dropLast, d)
    | none => none
  | _ => none
def mvClear (ds : List D) : List O → Option (List D × D)
  | [] => some ([], .non)
  | _ => none
def muInsert : MutD := ⟨"insert", isLst, lstEv mvInsert⟩
def muPopAt : MutD := ⟨"pop", isLst, lstEv mvPopAt⟩
def muPop : MutD := ⟨"pop", isLst, lstEv mvPop⟩
def muClear : MutD := ⟨"clear", isLst, lstEv mvClear⟩
def clsO : O → Option Str
  | .p (.exc c _ _) => some c
  | _ => none
/-- the target: an own class, or a built-in one -/
def sxIsx (t : Str) (sc : Scope) : Expr → Option (List Expr)
  | .Call (.Name f _) [a, .Name u _] [] _ => if decide (f = "isinstance") && (decide (u = t) && (glName sc f && (glName sc u && notStar a))) then some [a] else none
  | _ => none
def evIsx (tb : List (Str × Bool)) : List O → Option O
  | [o] => match clsO o with
    | some c => match tb.lookup c with
      | some b => some (.p (.bl b))
      | none => none
    | none => none
  | _ => none
def plIsx (t : Str) (tb : List (Str × Bool)) : Plug := ⟨sxIsx t, evIsx tb⟩
/-- ints in their order -/
def sortI (ns : List Int) : List Int := ns.mergeSort (fun a b => decide (a ≤ b))
def evSortI : List O → Option O
  | [o] => match o.lsts with
    | some ds => match intsD ds with
      | some ns => some (.lst ((sortI ns).map .int))
      | none => none
    | none => none
  | _ => none
def sxCall1 (n : Str) (sc : Scope) : Expr → Option (List Expr)
  | .Call (.Name f _) [a] [] _ => if decide (f = n) && (glName sc f && notStar a) then some [a] else none
  | _ => none
def plSortI : Plug := ⟨sxCall1 "sorted", evSortI⟩
/-- a method of a list that only reads -/
def rdEv (f : List D → List O → Option D) (o : O) (os : List O) : Option (O × D) := match o.lsts with
  | some ds => match f ds os with
    | some d => some (o, d)
    | none => none
  | none => none
def isLsts (o : O) : Bool := o.lsts.isSome
def mvCount (ds : List D) : List O → Option D
  | [.p (.int k)] => match intsD ds with
    | some ns => some (.int (ns.count k : Nat))
    | none => none
  | _ => none
def muCount : MutD := ⟨"count", isLsts, rdEv mvCount⟩
/-- tuple(reversed(x)) -/
def sxTupRev (sc : Scope) : Expr → Option (List Expr)
  | .Call (.Name f _) [.Call (.Name h _) [a] [] _] [] _ => if decide (f = "tuple") && (decide (h = "reversed") && (glName sc f && (glName sc h && notStar a))) then some [a] else none
  | _ => none
def evTupRev : List O → Option O
  | [o] => match o.lsts with
    | some ds => some (.p (.tup ds.reverse))
    | none => none
  | _ => none
def plTupRev : Plug := ⟨sxTupRev, evTupRev⟩
theorem RepDs.reverse {g : Gl} {F : Hp} : ∀ {ds : List D} {vs : List V}, RepDs g F ds vs → RepDs g F ds.reverse vs.reverse
  | [], vs, h => by
    unfold RepDs at h
    subst h
    show RepDs g F [] []
    unfold RepDs
    rfl
  | d :: ds, vs, h => by
    unfold RepDs at h
    obtain ⟨v, r, rfl, h1, h2⟩ := h
    rw [List.reverse_cons, List.reverse_cons]
    exact (RepDs.reverse h2).append (by unfold RepDs RepDs; exact ⟨_, _, rfl, h1, rfl⟩)
/-- x is True -/
def sxIsB (b : Bool) (sc : Scope) : Expr → Option (List Expr)
  | .Compare a [.Is] [.Constant (.bool c) _ _] _ => if b = c then some [a] else none
  | _ => none
def evIsB (b : Bool) : List O → Option O
  | [.p (.bl c)] => some (.p (.bl (decide (c = b))))
  | _ => none
def plIsB (b : Bool) : Plug := ⟨sxIsB b, evIsB b⟩
end DV
namespace DV
open PySem PySem.Spec PyProof.Rows L2
def seqB (n : Nat) (ss : List S) : Option (Fl × Ev) → Option (Fl × Ev)
  | some (.nx, ρ) => evSs n ss ρ
  | some (.bk, ρ) => some (.bk, ρ)
  | some (.ct, ρ) => some (.ct, ρ)
  | some (.rt o, ρ) => some (.rt o, ρ)
  | some (.ex x, ρ) => some (.ex x, ρ)
  | none => none
def iteB (n : Nat) (a b : List S) : Res O → Option (Fl × Ev)
  | some (.ok (.p (.bl true)), ρ) => evSs n a ρ
  | some (.ok (.p (.bl false)), ρ) => evSs n b ρ
  | some (.ex x, ρ) => some (.ex x, ρ)
  | _ => none
theorem iteB_bl {n : Nat} {a b : List S} {c : Bool} {ρ : Ev} : iteB n a b (some (.ok (.p (.bl c)), ρ)) = if c = true then evSs n a ρ else evSs n b ρ := by cases c <;> rfl
def runB (n : Nat) (body : List S) (ρ : Ev) : Option (Fl × Ev) := evSs n body ρ
def tstB (e : E) (ρ : Ev) : Res O := evE e ρ
def cndB (cs : List E) (ρ : Ev) : Res Bool := evTs cs ρ
def endFor (ρ : Ev) (L : List Nat) : Option (Fl × Ev) → Option (Fl × Ev)
  | some (fl, ρ2) => some (fl, backAll ρ ρ2 L)
  | none => none
def forD (n : Nat) (g : Tg) (body : List S) (ρ : Ev) (L : List Nat) : Option (List D) → Option (Fl × Ev)
  | some ds => if L.Nodup ∧ ∀ i ∈ L, i ∉ g.slots ++ asSs body then endFor ρ L (forRun g (runB n body) ds (hideAll ρ L)) else none
  | none => none
def forC (n : Nat) (g : Tg) (k : ItK) (body : List S) (ρ : Ev) (L : List Nat) : Option (List O) → Option (Fl × Ev)
  | some os => forD n g body ρ L (itD k os)
  | none => none
def forB (n : Nat) (g : Tg) (k : ItK) (body : List S) : Res (List Opd) → Option (Fl × Ev)
  | some (.ok qs, ρ) => forC n g k body ρ (lockd ρ qs) (vws ρ qs)
  | some (.ex x, ρ) => some (.ex x, ρ)
  | none => none
def setiC (i : Nat) (k : E) (d : D) (ρ : Ev) : Option (Option O) → Option (Fl × Ev)
  | some (some (.lst _)) => setO i d (evE k ρ)
  | _ => none
def setiB (i : Nat) (k : E) : Res O → Option (Fl × Ev)
  | some (.ok (.p d), ρ) => setiC i k d ρ ρ[i]?
  | some (.ex x, ρ) => some (.ex x, ρ)
  | _ => none
def appB (i : Nat) (e : E) (ρ : Ev) : Option (Option O) → Option (Fl × Ev)
  | some (some (.lst _)) => appO i (evE e ρ)
  | _ => none
def fzB (i : Nat) (ρ : Ev) : Option (Option O) → Option (Fl × Ev)
  | some (some o) => some (.nx, ρ.set i (some (.p o.frz)))
  | _ => none
section
variable {n : Nat} {ρ : Ev}
theorem evSs_nil : evSs n [] ρ = some (.nx, ρ) := by rw [evSs]
theorem evSs_cons {s : S} {ss : List S} : evSs n (s :: ss) ρ = seqB n ss (evS n s ρ) := by
  rw [evSs]
  rcases evS n s ρ with _ | ⟨fl, ρ1⟩
  · rfl
  · cases fl <;> rfl
theorem evS_asg {i : Nat} {e : E} : evS n (.asg i e) ρ = stO i (evE e ρ) := by rw [evS]
theorem evS_asgT {is : List Nat} {e : E} : evS n (.asgT is e) ρ = tupT is (evOs [e] ρ) := by rw [evS]
theorem evS_asgO {is : List Nat} {e : E} : evS n (.asgO is e) ρ = tupO is (evE e ρ) := by rw [evS]
theorem evS_seti {i : Nat} {k v : E} : evS n (.seti i k v) ρ = setiB i k (evE v ρ) := by
  rw [evS]
  rcases evE v ρ with _ | ⟨r, ρ1⟩
  · rfl
  · cases r with
    | ex x => rfl
    | ok o => cases o <;> rfl
theorem evS_app {i : Nat} {e : E} : evS n (.app i e) ρ = appB i e ρ ρ[i]? := by rw [evS]; rfl
theorem evS_ex {e : E} : evS n (.ex e) ρ = dropO (evE e ρ) := by rw [evS]
theorem evS_ife {t : E} {a b : List S} : evS n (.ife t a b) ρ = iteB n a b (evE t ρ) := by rw [evS]; rfl
theorem evS_for {g : Tg} {k : ItK} {src : List E} {body : List S} : evS n (.for_ g k src body) ρ = forB n g k body (evOs src ρ) := by
  rw [evS]
  rcases evOs src ρ with _ | ⟨r, ρ1⟩
  · rfl
  · cases r with
    | ex x => rfl
    | ok qs => rfl
theorem evS_whl {t : E} {body : List S} : evS n (.whl t body) ρ = whlRun (tstB t) (runB n body) n ρ := by rw [evS]; rfl
theorem evS_ret {e : E} : evS n (.ret e) ρ = retO (evE e ρ) := by rw [evS]
theorem evS_retN : evS n .retN ρ = some (.rt (.p .non), ρ) := by rw [evS]
theorem evS_pass : evS n .pass ρ = some (.nx, ρ) := by rw [evS]
theorem evS_brk : evS n .brk ρ = some (.bk, ρ) := by rw [evS]
theorem evS_cnt : evS n .cnt ρ = some (.ct, ρ) := by rw [evS]
theorem evS_fz {i : Nat} : evS n (.fz i) ρ = fzB i ρ ρ[i]? := by rw [evS]; rfl
end
def varB (ρ : Ev) : Option (Option O) → Res O
  | some (some (.p d)) => some (.ok (.p d), ρ)
  | _ => none
def mvB (i : Nat) (ρ : Ev) : Option (Option O) → Res O
  | some (some o) => some (.ok o, ρ.set i none)
  | _ => none
def okD (ρ : Ev) : Option O → Res O
  | some o => some (.ok o, ρ)
  | none => none
def primC (p : Prim) (ρ : Ev) : Option (List O) → Res O
  | some os => okD ρ (pev p os)
  | none => none
def primB (p : Prim) : Res (List Opd) → Res O
  | some (.ok qs, ρ) => primC p ρ (vws ρ qs)
  | some (.ex x, ρ) => some (.ex x, ρ)
  | none => none
def blD (ρ : Ev) : Option Bool → Res O
  | some b => some (.ok (.p (.bl b)), ρ)
  | none => none
def isiC (t : Str) (ρ : Ev) : Option (List O) → Res O
  | some [o] => blD ρ (isiO t o.frz)
  | _ => none
def isiB (t : Str) : Res (List Opd) → Res O
  | some (.ok qs, ρ) => isiC t ρ (vws ρ qs)
  | some (.ex x, ρ) => some (.ex x, ρ)
  | none => none
def tupD (ρ : Ev) : Option (List D) → Res O
  | some ds => if ds.length ≤ sizeLine then some (.ok (.p (.tup ds)), ρ) else none
  | none => none
def tupB : Res (List O) → Res O
  | some (.ok os, ρ) => tupD ρ (pures os)
  | some (.ex x, ρ) => some (.ex x, ρ)
  | none => none
def lstD (ρ : Ev) : Option (List D) → Res O
  | some ds => if ds.length ≤ sizeLine then some (.ok (.lst ds), ρ) else none
  | none => none
def lstB : Res (List O) → Res O
  | some (.ok os, ρ) => lstD ρ (pures os)
  | some (.ex x, ρ) => some (.ex x, ρ)
  | none => none
def otB : Res (List O) → Res O
  | some (.ok os, ρ) => if os.length ≤ sizeLine then some (.ok (.ot os), ρ) else none
  | some (.ex x, ρ) => some (.ex x, ρ)
  | none => none
def olB : Res (List O) → Res O
  | some (.ok os, ρ) => if os.length ≤ sizeLine then some (.ok (.ol os), ρ) else none
  | some (.ex x, ρ) => some (.ex x, ρ)
  | none => none
def frzB : Res O → Res O
  | some (.ok o, ρ) => some (.ok (.p o.frz), ρ)
  | some (.ex x, ρ) => some (.ex x, ρ)
  | none => none
def notB : Res O → Res O
  | some (.ok (.p (.bl b)), ρ) => some (.ok (.p (.bl (!b))), ρ)
  | some (.ex x, ρ) => some (.ex x, ρ)
  | _ => none
def lcE (ρ : Ev) (L : List Nat) : Option (List D × Ev) → Res O
  | some (ys, ρ2) => some (.ok (.lst ys), backAll ρ ρ2 L)
  | none => none
def lcD (g : Tg) (cs : List E) (elt : E) (ρ : Ev) (L : List Nat) : Option (List D) → Res O
  | some ds => if (L ++ g.slots).Nodup ∧ ds.length ≤ sizeLine then lcE ρ (L ++ g.slots) (lcRun g (cndB cs) (tstB elt) ds (hideAll ρ (L ++ g.slots))) else none
  | none => none
def lcC (g : Tg) (k : ItK) (cs : List E) (elt : E) (ρ : Ev) (L : List Nat) : Option (List O) → Res O
  | some os => lcD g cs elt ρ L (itD k os)
  | none => none
def lcB (g : Tg) (k : ItK) (cs : List E) (elt : E) : Res (List Opd) → Res O
  | some (.ok qs, ρ) => lcC g k cs elt ρ (lockd ρ qs) (vws ρ qs)
  | some (.ex x, ρ) => some (.ex x, ρ)
  | none => none
def andB (es : List E) : Res O → Res O
  | some (.ok (.p (.bl true)), ρ) => evAnd es ρ
  | some (.ok (.p (.bl false)), ρ) => some (.ok (.p (.bl false)), ρ)
  | some (.ex x, ρ) => some (.ex x, ρ)
  | _ => none
def orB (es : List E) : Res O → Res O
  | some (.ok (.p (.bl false)), ρ) => evOr es ρ
  | some (.ok (.p (.bl true)), ρ) => some (.ok (.p (.bl true)), ρ)
  | some (.ex x, ρ) => some (.ex x, ρ)
  | _ => none
theorem andB_bl {es : List E} {b : Bool} {ρ : Ev} : andB es (some (.ok (.p (.bl b)), ρ)) = if b = true then evAnd es ρ else some (.ok (.p (.bl false)), ρ) := by cases b <;> rfl
theorem orB_bl {es : List E} {b : Bool} {ρ : Ev} : orB es (some (.ok (.p (.bl b)), ρ)) = if b = true then some (.ok (.p (.bl true)), ρ) else evOr es ρ := by cases b <;> rfl
def tsB (es : List E) : Res O → Res Bool
  | some (.ok (.p (.bl true)), ρ) => evTs es ρ
  | some (.ok (.p (.bl false)), ρ) => some (.ok false, ρ)
  | _ => none
theorem tsB_bl {es : List E} {b : Bool} {ρ : Ev} : tsB es (some (.ok (.p (.bl b)), ρ)) = if b = true then evTs es ρ else some (.ok false, ρ) := by cases b <;> rfl
def esC (o : O) : Res (List O) → Res (List O)
  | some (.ok os, ρ) => some (.ok (o :: os), ρ)
  | some (.ex x, ρ) => some (.ex x, ρ)
  | none => none
def esB (es : List E) : Res O → Res (List O)
  | some (.ok o, ρ) => esC o (evEs es ρ)
  | some (.ex x, ρ) => some (.ex x, ρ)
  | none => none
def osC (q : Opd) : Res (List Opd) → Res (List Opd)
  | some (.ok qs, ρ) => some (.ok (q :: qs), ρ)
  | some (.ex x, ρ) => some (.ex x, ρ)
  | none => none
def osV (i : Nat) (es : List E) (ρ : Ev) : Option (Option O) → Res (List Opd)
  | some (some _) => osC (.sl i) (evOs es ρ)
  | _ => none
def osB (es : List E) : Res O → Res (List Opd)
  | some (.ok o, ρ) => osC (.val o.frz) (evOs es ρ)
  | some (.ex x, ρ) => some (.ex x, ρ)
  | none => none
section
variable {ρ : Ev}
theorem evE_var {i : Nat} : evE (.var i) ρ = varB ρ ρ[i]? := by rw [evE]; rfl
theorem evE_mv {i : Nat} : evE (.mv i) ρ = mvB i ρ ρ[i]? := by rw [evE]; rfl
theorem evE_non : evE .non ρ = some (.ok (.p .non), ρ) := by rw [evE]
theorem evE_bl {b : Bool} : evE (.bl b) ρ = some (.ok (.p (.bl b)), ρ) := by rw [evE]
theorem evE_int {i : Int} : evE (.int i) ρ = some (.ok (.p (.int i)), ρ) := by rw [evE]
theorem evE_str {i : Str} : evE (.str i) ρ = some (.ok (.p (.str i)), ρ) := by rw [evE]
theorem evE_glob {x : Str} {d : D} : evE (.glob x d) ρ = some (.ok (.p d), ρ) := by rw [evE]
theorem evE_prim {p : Prim} {es : List E} : evE (.prim p es) ρ = primB p (evOs es ρ) := by
  rw [evE]
  rcases evOs es ρ with _ | ⟨r, ρ1⟩
  · rfl
  · cases r <;> rfl
theorem evE_isi {t : Str} {es : List E} : evE (.isi t es) ρ = isiB t (evOs es ρ) := by
  rw [evE]
  rcases evOs es ρ with _ | ⟨r, ρ1⟩
  · rfl
  · cases r <;> rfl
theorem evE_tup {es : List E} : evE (.tup es) ρ = tupB (evEs es ρ) := by
  rw [evE]
  rcases evEs es ρ with _ | ⟨r, ρ1⟩
  · rfl
  · cases r <;> rfl
theorem evE_lst {es : List E} : evE (.lst es) ρ = lstB (evEs es ρ) := by
  rw [evE]
  rcases evEs es ρ with _ | ⟨r, ρ1⟩
  · rfl
  · cases r <;> rfl
theorem evE_ot {es : List E} : evE (.ot es) ρ = otB (evEs es ρ) := by
  rw [evE]
  rcases evEs es ρ with _ | ⟨r, ρ1⟩
  · rfl
  · cases r <;> rfl
theorem evE_ol {es : List E} : evE (.ol es) ρ = olB (evEs es ρ) := by
  rw [evE]
  rcases evEs es ρ with _ | ⟨r, ρ1⟩
  · rfl
  · cases r <;> rfl
theorem evE_lend {e : E} : evE (.lend e) ρ = lendC ρ (evE e (viewE ρ)) := by rw [evE]
theorem viewE_nil : viewE [] = [] := rfl
theorem viewE_some {o : O} {ρ : Ev} : viewE (some o :: ρ) = some (.p o.frz) :: viewE ρ := rfl
theorem viewE_none {ρ : Ev} : viewE (none :: ρ) = none :: viewE ρ := rfl
theorem lendC_bl {b : Bool} {ρ ρ1 : Ev} : lendC ρ (some (.ok (.p (.bl b)), ρ1)) = some (.ok (.p (.bl b)), ρ) := rfl
theorem lendC_int {i : Int} {ρ ρ1 : Ev} : lendC ρ (some (.ok (.p (.int i)), ρ1)) = some (.ok (.p (.int i)), ρ) := rfl
theorem lendC_str {z : Str} {ρ ρ1 : Ev} : lendC ρ (some (.ok (.p (.str z)), ρ1)) = some (.ok (.p (.str z)), ρ) := rfl
theorem lendC_tup {ds : List D} {ρ ρ1 : Ev} : lendC ρ (some (.ok (.p (.tup ds)), ρ1)) = if flatDs ds = true then some (.ok (.p (.tup ds)), ρ) else none := by
  unfold lendC flatD
  rfl
theorem lendC_non {ρ ρ1 : Ev} : lendC ρ (some (.ok (.p .non), ρ1)) = some (.ok (.p .non), ρ) := rfl
theorem frzs_nil : frzs [] = [] := rfl
theorem frzs_cons {o : O} {os : List O} : frzs (o :: os) = o.frz :: frzs os := rfl
theorem evE_frz {e : E} : evE (.frz e) ρ = frzB (evE e ρ) := by
  rw [evE]
  rcases evE e ρ with _ | ⟨r, ρ1⟩
  · rfl
  · cases r <;> rfl
theorem evE_and {es : List E} : evE (.and_ es) ρ = evAnd es ρ := by rw [evE]
theorem evE_or {es : List E} : evE (.or_ es) ρ = evOr es ρ := by rw [evE]
theorem evE_not {e : E} : evE (.not_ e) ρ = notB (evE e ρ) := by rw [evE]; rfl
theorem evE_call {f : Str} {dv : List D} {sem : FS} {es : List E} : evE (.call f dv sem es) ρ = callB sem dv (evOs es ρ) := by
  rw [evE]
  rcases evOs es ρ with _ | ⟨r, ρ1⟩
  · rfl
  · cases r <;> rfl
theorem plugC_some {p : Plug} {os : List O} : plugC p ρ (some os) = okD ρ (p.ev os) := by
  show (match p.ev os with
    | some o => some (R.ok o, ρ)
    | none => none) = okD ρ (p.ev os)
  cases p.ev os <;> rfl
theorem evE_plug {p : Plug} {es : List E} : evE (.plug p es) ρ = plugB p (evOs es ρ) := by rw [evE]
theorem evE_plugT {p : Plug} {es : List E} : evE (.plugT p es) ρ = plugB p (evOs es ρ) := by rw [evE]
theorem evE_callM {c : CallM} {i : Nat} {es : List E} : evE (.callM c i es) ρ = callMA c (callB c.sem [] (consS i (evOs es ρ))) ρ[i]? := by rw [evE]
theorem evE_callG {c : CallD} {es : List E} : evE (.callG c es) ρ = callB c.sem [] (evOs es ρ) := by rw [evE]
def callHC (c : CallH) (es : List E) (d : D) (ρ1 : Ev) : Bool → Res O
  | true => callB (c.sem d) [] (consQ d (evOs es ρ1))
  | false => none
def callHB (c : CallH) (es : List E) : Res O → Res O
  | some (.ok (.p d), ρ1) => callHC c es d ρ1 (c.ok d)
  | some (.ex x, ρ1) => some (.ex x, ρ1)
  | _ => none
theorem evE_callH {c : CallH} {e : E} {es : List E} : evE (.callH c e es) ρ = callHB c es (evE e ρ) := by rw [evE]; rfl
theorem evE_callV {f : Str} {sem : FS} {es : List E} : evE (.callV f sem es) ρ = callV sem (evEs es ρ) := by rw [evE]
theorem evE_callL {c : CallL} {i : Nat} {es fs : List E} : evE (.callL c i es fs) ρ = callLA c i (fun r => bindQ (fun r2 => evOs fs r2) (evOs es r)) ρ ρ[i]? := by rw [evE]
theorem evE_plugN {p : Plug} {js : List Nat} : evE (.plugN p js) ρ = plugC p ρ (vws ρ (js.map .sl)) := by rw [evE]
theorem evE_own {p : OwnD} {i : Nat} {es : List E} : evE (.own p i es) ρ = owA p (owB p i (evOs es ρ)) ρ[i]? := by rw [evE]
theorem evE_mut {p : MutD} {i : Nat} {es : List E} : evE (.mut p i es) ρ = mutA p (mutB p i (evOs es ρ)) ρ[i]? := by rw [evE]
theorem evE_lc {g : Tg} {k : ItK} {src cs : List E} {elt : E} : evE (.lc g k src cs elt) ρ = lcB g k cs elt (evOs src ρ) := by
  rw [evE]
  rcases evOs src ρ with _ | ⟨r, ρ1⟩
  · rfl
  · cases r <;> rfl
theorem evAnd_one {e : E} : evAnd [e] ρ = evE e ρ := by rw [evAnd]
theorem evAnd_cons {e e2 : E} {es : List E} : evAnd (e :: e2 :: es) ρ = andB (e2 :: es) (evE e ρ) := by
  rw [evAnd]
  · rfl
  · intro z; cases z
theorem evOr_one {e : E} : evOr [e] ρ = evE e ρ := by rw [evOr]
theorem evOr_cons {e e2 : E} {es : List E} : evOr (e :: e2 :: es) ρ = orB (e2 :: es) (evE e ρ) := by
  rw [evOr]
  · rfl
  · intro z; cases z
theorem evTs_nil : evTs [] ρ = some (.ok true, ρ) := by rw [evTs]
theorem evTs_cons {e : E} {es : List E} : evTs (e :: es) ρ = tsB es (evE e ρ) := by rw [evTs]; rfl
theorem evEs_nil : evEs [] ρ = some (.ok [], ρ) := by rw [evEs]
theorem evEs_cons {e : E} {es : List E} : evEs (e :: es) ρ = esB es (evE e ρ) := by
  rw [evEs]
  rcases evE e ρ with _ | ⟨r, ρ1⟩
  · rfl
  · cases r with
    | ex x => rfl
    | ok o =>
      show _ = esC o (evEs es ρ1)
      dsimp only
      rcases evEs es ρ1 with _ | ⟨r2, ρ2⟩
      · rfl
      · cases r2 <;> rfl
theorem evOs_nil : evOs [] ρ = some (.ok [], ρ) := by rw [evOs]
theorem evOs_var {i : Nat} {es : List E} : evOs (.var i :: es) ρ = osV i es ρ ρ[i]? := by
  rw [evOs]
  rcases ρ[i]? with _ | _ | o
  · rfl
  · rfl
  · show _ = osC _ (evOs es ρ)
    dsimp only
    rcases evOs es ρ with _ | ⟨r2, ρ2⟩
    · rfl
    · cases r2 <;> rfl
theorem evOs_e {e : E} {es : List E} (h : ∀ i, e ≠ .var i) : evOs (e :: es) ρ = osB es (evE e ρ) := by
  rw [evOs]
  · rcases evE e ρ with _ | ⟨r, ρ1⟩
    · rfl
    · cases r with
      | ex x => rfl
      | ok o =>
        show _ = osC _ (evOs es ρ1)
        dsimp only
        rcases evOs es ρ1 with _ | ⟨r2, ρ2⟩
        · rfl
        · cases r2 <;> rfl
  · exact h
theorem evOs_mv {i : Nat} {es : List E} : evOs (.mv i :: es) ρ = osB es (evE (.mv i) ρ) := evOs_e fun _ z => by cases z
theorem evOs_non {es : List E} : evOs (.non :: es) ρ = osB es (some (.ok (.p .non), ρ)) := (evOs_e fun _ z => by cases z).trans (by rw [evE_non])
theorem evOs_bl {b : Bool} {es : List E} : evOs (.bl b :: es) ρ = osB es (some (.ok (.p (.bl b)), ρ)) := (evOs_e fun _ z => by cases z).trans (by rw [evE_bl])
theorem evOs_int {i : Int} {es : List E} : evOs (.int i :: es) ρ = osB es (some (.ok (.p (.int i)), ρ)) := (evOs_e fun _ z => by cases z).trans (by rw [evE_int])
theorem evOs_str {i : Str} {es : List E} : evOs (.str i :: es) ρ = osB es (some (.ok (.p (.str i)), ρ)) := (evOs_e fun _ z => by cases z).trans (by rw [evE_str])
theorem evOs_glob {x : Str} {d : D} {es : List E} : evOs (.glob x d :: es) ρ = osB es (some (.ok (.p d), ρ)) := (evOs_e fun _ z => by cases z).trans (by rw [evE_glob])
theorem evOs_prim {p : Prim} {xs es : List E} : evOs (.prim p xs :: es) ρ = osB es (evE (.prim p xs) ρ) := evOs_e fun _ z => by cases z
theorem evOs_isi {t : Str} {xs es : List E} : evOs (.isi t xs :: es) ρ = osB es (evE (.isi t xs) ρ) := evOs_e fun _ z => by cases z
theorem evOs_plugT {p : Plug} {xs es : List E} : evOs (.plugT p xs :: es) ρ = osB es (evE (.plugT p xs) ρ) := evOs_e fun _ z => by cases z
theorem evOs_callM {c : CallM} {i : Nat} {xs es : List E} : evOs (.callM c i xs :: es) ρ = osB es (evE (.callM c i xs) ρ) := evOs_e fun _ z => by cases z
theorem evOs_plug {p : Plug} {xs es : List E} : evOs (.plug p xs :: es) ρ = osB es (evE (.plug p xs) ρ) := evOs_e fun _ z => by cases z
theorem evOs_callG {c : CallD} {xs es : List E} : evOs (.callG c xs :: es) ρ = osB es (evE (.callG c xs) ρ) := evOs_e fun _ z => by cases z
theorem evOs_callH {c : CallH} {e : E} {xs es : List E} : evOs (.callH c e xs :: es) ρ = osB es (evE (.callH c e xs) ρ) := evOs_e fun _ z => by cases z
theorem evOs_callV {f : Str} {sem : FS} {xs es : List E} : evOs (.callV f sem xs :: es) ρ = osB es (evE (.callV f sem xs) ρ) := evOs_e fun _ z => by cases z
theorem evOs_callL {c : CallL} {i : Nat} {xs ys es : List E} : evOs (.callL c i xs ys :: es) ρ = osB es (evE (.callL c i xs ys) ρ) := evOs_e fun _ z => by cases z
theorem evOs_plugN {p : Plug} {js : List Nat} {es : List E} : evOs (.plugN p js :: es) ρ = osB es (evE (.plugN p js) ρ) := evOs_e fun _ z => by cases z
theorem evOs_own {p : OwnD} {i : Nat} {xs es : List E} : evOs (.own p i xs :: es) ρ = osB es (evE (.own p i xs) ρ) := evOs_e fun _ z => by cases z
theorem evOs_mut {p : MutD} {i : Nat} {xs es : List E} : evOs (.mut p i xs :: es) ρ = osB es (evE (.mut p i xs) ρ) := evOs_e fun _ z => by cases z
theorem evOs_tup {xs es : List E} : evOs (.tup xs :: es) ρ = osB es (evE (.tup xs) ρ) := evOs_e fun _ z => by cases z
theorem evOs_lst {xs es : List E} : evOs (.lst xs :: es) ρ = osB es (evE (.lst xs) ρ) := evOs_e fun _ z => by cases z
theorem evOs_ot {xs es : List E} : evOs (.ot xs :: es) ρ = osB es (evE (.ot xs) ρ) := evOs_e fun _ z => by cases z
theorem evOs_ol {xs es : List E} : evOs (.ol xs :: es) ρ = osB es (evE (.ol xs) ρ) := evOs_e fun _ z => by cases z
theorem evOs_lend {x : E} {es : List E} : evOs (.lend x :: es) ρ = osB es (evE (.lend x) ρ) := evOs_e fun _ z => by cases z
theorem evOs_frz {x : E} {es : List E} : evOs (.frz x :: es) ρ = osB es (evE (.frz x) ρ) := evOs_e fun _ z => by cases z
theorem evOs_and {xs es : List E} : evOs (.and_ xs :: es) ρ = osB es (evE (.and_ xs) ρ) := evOs_e fun _ z => by cases z
theorem evOs_or {xs es : List E} : evOs (.or_ xs :: es) ρ = osB es (evE (.or_ xs) ρ) := evOs_e fun _ z => by cases z
theorem evOs_not {x : E} {es : List E} : evOs (.not_ x :: es) ρ = osB es (evE (.not_ x) ρ) := evOs_e fun _ z => by cases z
theorem evOs_call {f : Str} {dv : List D} {sem : FS} {xs es : List E} : evOs (.call f dv sem xs :: es) ρ = osB es (evE (.call f dv sem xs) ρ) := evOs_e fun _ z => by cases z
theorem evOs_lc {g : Tg} {k : ItK} {src cs : List E} {elt : E} {es : List E} : evOs (.lc g k src cs elt :: es) ρ = osB es (evE (.lc g k src cs elt) ρ) := evOs_e fun _ z => by cases z
end
theorem giveBack_nil {ρ : Ev} {bs : List (Option O)} : giveBack ρ [] bs = ρ := by cases bs <;> rfl
theorem giveBack_nones {ρ : Ev} : ∀ {r : List (Option Nat)} {bs : List (Option O)}, (∀ x ∈ r, x = none) → giveBack ρ r bs = ρ
  | [], bs, h => giveBack_nil
  | x :: r, [], h => by
    rw [h x List.mem_cons_self]
    rfl
  | x :: r, b :: bs, h => by
    rw [h x List.mem_cons_self]
    exact giveBack_nones (r := r) fun y hy => h y (List.mem_cons_of_mem _ hy)
theorem gb1 {ρ : Ev} {bs : List (Option O)} : giveBack ρ [none] bs = ρ := giveBack_nones (by simp)
theorem gb2 {ρ : Ev} {bs : List (Option O)} : giveBack ρ [none, none] bs = ρ := giveBack_nones (by simp)
theorem gb3 {ρ : Ev} {bs : List (Option O)} : giveBack ρ [none, none, none] bs = ρ := giveBack_nones (by simp)
theorem gb4 {ρ : Ev} {bs : List (Option O)} : giveBack ρ [none, none, none, none] bs = ρ := giveBack_nones (by simp)
theorem gb5 {ρ : Ev} {bs : List (Option O)} : giveBack ρ [none, none, none, none, none] bs = ρ := giveBack_nones (by simp)
theorem gb6 {ρ : Ev} {bs : List (Option O)} : giveBack ρ [none, none, none, none, none, none] bs = ρ := giveBack_nones (by simp)
def finC (asn : List Nat) (n : Nat) : Option (Fl × Ev) → Option (R O × List (Option O))
  | some (.nx, ρ) => some (.ok (.p .non), finB asn n 0 ρ)
  | some (.rt o, ρ) => some (.ok o, finB asn n 0 ρ)
  | some (.ex x, ρ) => some (.ex x, finB asn n 0 ρ)
  | _ => none
theorem semOf_eq {N n : Nat} {ir : List S} {fuel : Nat} {os : List O} (h : os.length = n) : semOf N n ir fuel os = finC (asSs ir) n (evSs fuel ir (ini N n os)) := by
  unfold semOf
  rw [if_pos h]
  rfl
/-- it answers so, whatever comes back for its arguments -/
def Ret (x : Option (R O × List (Option O))) (r : R O) : Prop := ∃ bs, x = some (r, bs)
theorem Ret.sem {N n : Nat} {ir : List S} {fuel : Nat} {os : List O} {r : R O} (h : os.length = n) (q : Ret (finC (asSs ir) n (evSs fuel ir (ini N n os))) r) : Ret (semOf N n ir fuel os) r := by
  rw [semOf_eq h]
  exact q
theorem ret_rt {asn : List Nat} {n : Nat} {o : O} {ρ : Ev} {r : R O} : Ret (finC asn n (some (.rt o, ρ))) r ↔ R.ok o = r := ⟨fun ⟨_, h⟩ => by cases h; rfl, fun h => ⟨_, by rw [← h]; rfl⟩⟩
theorem ret_nx {asn : List Nat} {n : Nat} {ρ : Ev} {r : R O} : Ret (finC asn n (some (.nx, ρ))) r ↔ R.ok (.p .non) = r := ⟨fun ⟨_, h⟩ => by cases h; rfl, fun h => ⟨_, by rw [← h]; rfl⟩⟩
theorem atI_pos {α : Type} {xs : List α} {k : Int} (h0 : 0 ≤ k) (h : k < xs.length) : L2.atI xs k = xs[k.toNat]? := by
  unfold L2.atI L2.ixN
  rw [if_pos h0, if_pos h]
  rfl
theorem eqD_str {a b : Str} (h : PyData.strOk a = true) (h2 : PyData.strOk b = true) : eqD (.str a) (.str b) = some (a == b) := by
  unfold eqD D.dep
  rw [h, h2]
  rfl
theorem eqD_int {a b : Int} : eqD (.int a) (.int b) = some (a == b) := rfl
theorem eqD_bl {a b : Bool} : eqD (.bl a) (.bl b) = some (a == b) := by cases a <;> cases b <;> rfl
theorem rng1_ok {n : Int} (h : 0 ≤ n) (h2 : n ≤ 1000000) : itR1 [.p (.int n)] = some (rngD 0 n.toNat) := by
  unfold itR1
  dsimp only
  rw [if_pos (by omega)]
theorem rng1_nat {n : Nat} (h2 : n ≤ 1000000) : itR1 [.p (.int n)] = some (rngD 0 n) := by
  rw [rng1_ok (by omega) (by omega)]
  rfl
theorem rngD_some {lo : Int} {n j : Nat} {d : D} (h : (rngD lo n)[j]? = some d) : j < n ∧ d = .int (lo + j) := by
  have l : j < n := by
    have := (List.getElem?_eq_some_iff.mp h).1
    rwa [rngD_length] at this
  rw [rngD_get _ _ _ l] at h
  exact ⟨l, (Option.some.inj h).symm⟩
theorem atI_zero {α : Type} {x : α} {xs : List α} : L2.atI (x :: xs) 0 = some x := by
  rw [atI_pos (by decide) (by simp)]
  rfl
theorem atI_int {ns : List Int} {k : Int} (h0 : 0 ≤ k) (h : k < ns.length) : L2.atI (ns.map D.int) k = some (.int (ns.getD k.toNat 0)) := by
  have h2 : k.toNat < ns.length := by omega
  rw [atI_pos h0 (by rw [List.length_map]; exact h), List.getElem?_map, List.getElem?_eq_getElem h2, List.getD_eq_getElem?_getD, List.getElem?_eq_getElem h2]
  rfl
theorem strOk_iff {x : Str} : PyData.strOk x = true ↔ ∀ c ∈ x.cps.toList, c < 0x110000 := by
  show (x.cps.all fun c => decide (c < 0x110000)) = true ↔ _
  rw [← Array.all_toList, List.all_eq_true]
  exact ⟨fun h c hc => of_decide_eq_true (h c hc), fun h c hc => decide_eq_true (h c hc)⟩
theorem strOk_app {a b : Str} (h : PyData.strOk a = true) (h2 : PyData.strOk b = true) : PyData.strOk (a ++ b) = true := by
  rw [strOk_iff] at *
  intro c hc
  have : (a ++ b).cps.toList = a.cps.toList ++ b.cps.toList := PySem.W.KT.app_list a b
  rw [this] at hc
  rcases List.mem_append.mp hc with z | z
  · exact h c z
  · exact h2 c z
theorem le_line {n : Nat} (h : n ≤ 1000) : (n ≤ sizeLine) = True := eq_true (Nat.le_trans h (by decide))
theorem lt_line {n : Nat} (h : n ≤ 1000) : (n < sizeLine) = True := eq_true (Nat.lt_of_le_of_lt h (by decide))
def setinL (i : Nat) (os : List O) (k : Nat) (d : D) (b : Int) (ρ : Ev) : Option O → Option (Fl × Ev)
  | some (.lst ds) => match L2.ixN ds.length b with
    | some jj => some (.nx, ρ.set i (some (.ol (os.set k (.lst (ds.set jj d))))))
    | none => none
  | _ => none
def setinK (i : Nat) (os : List O) (d : D) (b : Int) (ρ : Ev) : Option Nat → Option (Fl × Ev)
  | some k => setinL i os k d b ρ os[k]?
  | none => none
theorem setinO_int {i : Nat} {os : List O} {a b : Int} {d : D} {ρ : Ev} : setinO i os a d (some (.ok (.p (.int b)), ρ)) = setinK i os d b ρ (L2.ixN os.length a) := by
  show (match L2.ixN os.length a with
      | some k => match os[k]? with
        | some (.lst ds) => match L2.ixN ds.length b with
          | some jj => some (Fl.nx, ρ.set i (some (.ol (os.set k (.lst (ds.set jj d))))))
          | none => none
        | _ => none
      | none => none) = _
  rcases L2.ixN os.length a with _ | k
  · rfl
  · show (match os[k]? with
        | some (.lst ds) => match L2.ixN ds.length b with
          | some jj => some (Fl.nx, ρ.set i (some (.ol (os.set k (.lst (ds.set jj d))))))
          | none => none
        | _ => none) = setinL i os k d b ρ os[k]?
    rcases os[k]? with _ | o
    · rfl
    · cases o <;> rfl
def setinD (i : Nat) (a : Int) (d : D) (j : E) (ρ : Ev) : Option (Option O) → Option (Fl × Ev)
  | some (some (.ol os)) => setinO i os a d (evE j (ρ.set i none))
  | _ => none
def setinC (i : Nat) (d : D) (j : E) : Res O → Option (Fl × Ev)
  | some (.ok (.p (.int a)), ρ) => setinD i a d j ρ ρ[i]?
  | _ => none
def setinB (i : Nat) (k j : E) (d : D) (ρ : Ev) : Option (Option O) → Option (Fl × Ev)
  | some (some (.ol _)) => setinC i d j (evE k ρ)
  | _ => none
def setinA (i : Nat) (k j : E) : Res O → Option (Fl × Ev)
  | some (.ok (.p d), ρ) => setinB i k j d ρ ρ[i]?
  | some (.ex x, ρ) => some (.ex x, ρ)
  | _ => none
def appinD (i : Nat) (j : Int) (e : E) (ρ : Ev) : Option (Option O) → Option (Fl × Ev)
  | some (some (.ol os)) => appinO i os j (evE e (ρ.set i none))
  | _ => none
def appinC (i : Nat) (e : E) : Res O → Option (Fl × Ev)
  | some (.ok (.p (.int j)), ρ) => appinD i j e ρ ρ[i]?
  | _ => none
def appinB (i : Nat) (k e : E) (ρ : Ev) : Option (Option O) → Option (Fl × Ev)
  | some (some (.ol _)) => appinC i e (evE k ρ)
  | _ => none
def appinVD (i : Nat) (j : Int) (e : E) (ρ : Ev) : Option (Option O) → Option (Fl × Ev)
  | some (some (.ol os)) => appinO i os j (lendC (ρ.set i none) (evE e (viewE ρ)))
  | _ => none
def appinVC (i : Nat) (e : E) : Res O → Option (Fl × Ev)
  | some (.ok (.p (.int j)), ρ) => appinVD i j e ρ ρ[i]?
  | _ => none
def appinVB (i : Nat) (k e : E) (ρ : Ev) : Option (Option O) → Option (Fl × Ev)
  | some (some (.ol _)) => appinVC i e (evE k ρ)
  | _ => none
def lenIC (ρ : Ev) : Option (List O) → Res O
  | some os => okD ρ (lenIO os)
  | none => none
def lenIB : Res (List Opd) → Res O
  | some (.ok qs, ρ) => lenIC ρ (vws ρ qs)
  | some (.ex x, ρ) => some (.ex x, ρ)
  | none => none
def cmp2E (q : Prim) (y : Int) (c : E) (ρ : Ev) : Bool → Res O
  | true => cmp2C q y (evE c ρ)
  | false => some (.ok (.p (.bl false)), ρ)
theorem cmp2E_eq {q : Prim} {y : Int} {c : E} {ρ : Ev} {b : Bool} : cmp2E q y c ρ b = if b = true then cmp2C q y (evE c ρ) else some (.ok (.p (.bl false)), ρ) := by cases b <;> rfl
def cmp2D (p q : Prim) (x : Int) (c : E) : Res O → Res O
  | some (.ok (.p (.int y)), ρ) => cmp2E q y c ρ (cmpZ p x y)
  | some (.ex x, ρ) => some (.ex x, ρ)
  | _ => none
def cmp2B (p q : Prim) (b c : E) : Res O → Res O
  | some (.ok (.p (.int x)), ρ) => cmp2D p q x c (evE b ρ)
  | some (.ex x, ρ) => some (.ex x, ρ)
  | _ => none
def iteX (a b : E) : Res O → Res O
  | some (.ok (.p (.bl true)), ρ) => evE a ρ
  | some (.ok (.p (.bl false)), ρ) => evE b ρ
  | some (.ex x, ρ) => some (.ex x, ρ)
  | _ => none
theorem iteX_bl {a b : E} {c : Bool} {ρ : Ev} : iteX a b (some (.ok (.p (.bl c)), ρ)) = if c = true then evE a ρ else evE b ρ := by cases c <;> rfl
section
variable {ρ : Ev} {n : Nat}
theorem evS_setin {i : Nat} {k j v : E} : evS n (.setin i k j v) ρ = setinA i k j (evE v ρ) := by
  rw [evS]
  rcases evE v ρ with _ | ⟨r, ρ0⟩
  · rfl
  · cases r with
    | ex x => rfl
    | ok o =>
      cases o with
      | p d =>
        show _ = setinB i k j d ρ0 ρ0[i]?
        dsimp only
        rcases ρ0[i]? with _ | _ | o
        · rfl
        · rfl
        · cases o with
          | ol os =>
            show _ = setinC i d j (evE k ρ0)
            dsimp only
            rcases evE k ρ0 with _ | ⟨r, ρ1⟩
            · rfl
            · cases r with
              | ex x => rfl
              | ok o =>
                cases o with
                | p d2 => cases d2 <;> rfl
                | _ => rfl
          | _ => rfl
      | _ => rfl
theorem evS_appin {i : Nat} {k e : E} : evS n (.appin i k e) ρ = appinB i k e ρ ρ[i]? := by
  rw [evS]
  rcases ρ[i]? with _ | _ | o
  · rfl
  · rfl
  · cases o with
    | ol os =>
      show _ = appinC i e (evE k ρ)
      dsimp only
      rcases evE k ρ with _ | ⟨r, ρ1⟩
      · rfl
      · cases r with
        | ex x => rfl
        | ok o =>
          cases o with
          | p d => cases d <;> rfl
          | _ => rfl
    | _ => rfl
theorem evS_appinV {i : Nat} {k e : E} : evS n (.appinV i k e) ρ = appinVB i k e ρ ρ[i]? := by
  rw [evS]
  rcases ρ[i]? with _ | _ | o
  · rfl
  · rfl
  · cases o with
    | ol os =>
      show _ = appinVC i e (evE k ρ)
      dsimp only
      rcases evE k ρ with _ | ⟨r, ρ1⟩
      · rfl
      · cases r with
        | ex x => rfl
        | ok o =>
          cases o with
          | p d => cases d <;> rfl
          | _ => rfl
    | _ => rfl
theorem evE_lenI {es : List E} : evE (.lenI es) ρ = lenIB (evOs es ρ) := by
  rw [evE]
  rcases evOs es ρ with _ | ⟨r, ρ1⟩
  · rfl
  · cases r <;> rfl
theorem evE_cmp2 {p q : Prim} {a b c : E} : evE (.cmp2 p q a b c) ρ = cmp2B p q b c (evE a ρ) := by
  rw [evE]
  rcases evE a ρ with _ | ⟨r, ρ1⟩
  · rfl
  · cases r with
    | ex x => rfl
    | ok o =>
      cases o with
      | p d =>
        cases d with
        | int x =>
          show _ = cmp2D p q x c (evE b ρ1)
          dsimp only
          rcases evE b ρ1 with _ | ⟨r2, ρ2⟩
          · rfl
          · cases r2 with
            | ex x => rfl
            | ok o2 =>
              cases o2 with
              | p d2 =>
                cases d2 with
                | int y =>
                  show _ = cmp2E q y c ρ2 (cmpZ p x y)
                  dsimp only
                  cases cmpZ p x y <;> rfl
                | _ => rfl
              | _ => rfl
        | _ => rfl
      | _ => rfl
theorem evE_ite {t a b : E} : evE (.ite t a b) ρ = iteX a b (evE t ρ) := by rw [evE]; rfl
theorem evOs_lenI {xs es : List E} : evOs (.lenI xs :: es) ρ = osB es (evE (.lenI xs) ρ) := evOs_e fun _ z => by cases z
theorem evOs_cmp2 {p q : Prim} {a b c : E} {es : List E} : evOs (.cmp2 p q a b c :: es) ρ = osB es (evE (.cmp2 p q a b c) ρ) := evOs_e fun _ z => by cases z
theorem evOs_ite {t a b : E} {es : List E} : evOs (.ite t a b :: es) ρ = osB es (evE (.ite t a b) ρ) := evOs_e fun _ z => by cases z
end
theorem evE_idxT {x : Str} {ys : List Str} {e : E} {ρ : Ev} : evE (.idxT x ys e) ρ = idxC ys (evE e ρ) := by rw [evE]
theorem evOs_idxT {x : Str} {ys : List Str} {e : E} {es : List E} {ρ : Ev} : evOs (.idxT x ys e :: es) ρ = osB es (evE (.idxT x ys e) ρ) := evOs_e fun _ z => by cases z
theorem evS_rse {c : Str} {ρ : Ev} {n : Nat} : evS n (.rse c) ρ = some (.ex ⟨c, [], []⟩, ρ) := by rw [evS]
def tryB (n : Nat) (hs : Hs) : Option (Fl × Ev) → Option (Fl × Ev)
  | some (.ex x, ρ1) => evHs n hs x ρ1
  | r => r
def hsC (n : Nat) (nm : Option Nat) (suite : List S) : Option Ev → Option (Fl × Ev)
  | some ρ1 => suiteE nm (evSs n suite ρ1)
  | none => none
def hsB (n : Nat) (nm : Option Nat) (suite : List S) (r : Hs) (x : Ex) (ρ : Ev) : Option Bool → Option (Fl × Ev)
  | some true => hsC n nm suite (suiteI nm x ρ)
  | some false => evHs n r x ρ
  | none => none
section
variable {n : Nat} {ρ : Ev}
theorem evS_smut {p : SMut} {i : Nat} {es : List E} {j : Option Nat} : evS n (.smut p i es j) ρ = smutA p (smutB p i j (evOs es ρ)) ρ[i]? := by rw [evS]
theorem evS_smutL {p : SMut} {i : Nat} {es : List E} : evS n (.smutL p i es) ρ = smutLA p i (fun r => evOs es r) ρ ρ[i]? := by rw [evS]
theorem evS_seto {p : SetOD} {i : Nat} {e : E} {j : Option Nat} : evS n (.seto p i e j) ρ = setoA p (setoB p i j (evE e ρ)) ρ[i]? := by rw [evS]
theorem evS_rsp {p : RaiseD} {es : List E} : evS n (.rsp p es) ρ = rspB p (evOs es ρ) := by rw [evS]
theorem evS_kill {is : List Nat} : evS n (.kill is) ρ = some (.nx, hideAll ρ is) := by rw [evS]
theorem evS_try {body : List S} {hs : Hs} : evS n (.try_ body hs) ρ = tryB n hs (evSs n body ρ) := by rw [evS]; rfl
theorem evHs_nil {x : Ex} : evHs n .nil x ρ = some (.ex x, ρ) := by rw [evHs]
theorem evHs_cons {one : Bool} {cs : List Str} {tb : List (Str × Bool)} {nm : Option Nat} {suite : List S} {r : Hs} {x : Ex} : evHs n (.cons one cs tb nm suite r) x ρ = hsB n nm suite r x ρ (tb.lookup x.c) := by rw [evHs]; rfl
theorem tryB_nx {hs : Hs} : tryB n hs (some (.nx, ρ)) = some (.nx, ρ) := rfl
theorem tryB_rt {hs : Hs} {o : O} : tryB n hs (some (.rt o, ρ)) = some (.rt o, ρ) := rfl
theorem tryB_ct {hs : Hs} : tryB n hs (some (.ct, ρ)) = some (.ct, ρ) := rfl
theorem tryB_bk {hs : Hs} : tryB n hs (some (.bk, ρ)) = some (.bk, ρ) := rfl
theorem tryB_ex {hs : Hs} {x : Ex} : tryB n hs (some (.ex x, ρ)) = evHs n hs x ρ := rfl
theorem suiteE_nx {nm : Option Nat} : suiteE nm (some (.nx, ρ)) = some (.nx, suiteK nm ρ) := rfl
theorem suiteE_rt {nm : Option Nat} {o : O} : suiteE nm (some (.rt o, ρ)) = some (.rt o, suiteK nm ρ) := rfl
end
def ctNx : Option (Fl × Ev) → Option (Fl × Ev)
  | some (.ct, ρ) => some (.nx, ρ)
  | r => r
theorem ctNx_nx {ρ : Ev} : ctNx (some (.nx, ρ)) = some (.nx, ρ) := rfl
theorem ctNx_ct {ρ : Ev} : ctNx (some (.ct, ρ)) = some (.nx, ρ) := rfl
theorem ctNx_bk {ρ : Ev} : ctNx (some (.bk, ρ)) = some (.bk, ρ) := rfl
theorem ctNx_rt {ρ : Ev} {o : O} : ctNx (some (.rt o, ρ)) = some (.rt o, ρ) := rfl
theorem ctNx_ex {ρ : Ev} {x : Ex} : ctNx (some (.ex x, ρ)) = some (.ex x, ρ) := rfl
def fStC (body : Ev → Option (Fl × Ev)) : Option Ev → Option (Fl × Ev)
  | some ρ1 => ctNx (body ρ1)
  | none => none
/-- one turn of a for -/
def fSt (g : Tg) (body : Ev → Option (Fl × Ev)) (d : D) (ρ : Ev) : Option (Fl × Ev) := fStC body (g.set d ρ)
theorem forRun_cons {g : Tg} {body : Ev → Option (Fl × Ev)} {d : D} {ds : List D} {ρ ρ2 : Ev} (h : fSt g body d ρ = some (.nx, ρ2)) : forRun g body (d :: ds) ρ = forRun g body ds ρ2 := by
  unfold fSt at h
  rw [forRun]
  cases e : g.set d ρ with
  | none => rw [e] at h; cases h
  | some ρ1 =>
    rw [e] at h
    have h : ctNx (body ρ1) = some (.nx, ρ2) := h
    dsimp only
    rcases hb : body ρ1 with _ | ⟨fl, ρ3⟩
    · rw [hb] at h; cases h
    · rw [hb] at h
      cases fl <;> cases h <;> rfl
/-- a for by the states ahead of its turns -/
theorem forRun_st {g : Tg} {body : Ev → Option (Fl × Ev)} (ρs : Nat → Ev) : ∀ (ds : List D) (k : Nat), (∀ i d, ds[i]? = some d → fSt g body d (ρs (k + i)) = some (.nx, ρs (k + i + 1))) → forRun g body ds (ρs k) = some (.nx, ρs (k + ds.length))
  | [], k, _ => rfl
  | d :: ds, k, h => by
    have h0 := h 0 d rfl
    rw [Nat.add_zero] at h0
    rw [forRun_cons h0, forRun_st ρs ds (k + 1) fun i e he => ?_]
    · rw [List.length_cons, Nat.add_assoc, Nat.add_comm 1]
    · have := h (i + 1) e he
      rw [show k + (i + 1) = k + 1 + i by omega] at this
      exact this
/-- over a range -/
theorem forRun_rng {g : Tg} {body : Ev → Option (Fl × Ev)} (ρs : Nat → Ev) (lo : Int) (n : Nat) (h : ∀ i, i < n → fSt g body (.int (lo + i)) (ρs i) = some (.nx, ρs (i + 1))) : forRun g body (rngD lo n) (ρs 0) = some (.nx, ρs n) := by
  have := forRun_st (g := g) (body := body) ρs (rngD lo n) 0 fun i d hd => by
    obtain ⟨h1, rfl⟩ := rngD_some hd
    rw [Nat.zero_add]
    exact h i h1
  rw [rngD_length, Nat.zero_add] at this
  exact this
theorem forRun_r {g : Tg} {body : Ev → Option (Fl × Ev)} {ρ0 ρn : Ev} (ρs : Nat → Ev) {lo : Int} {n : Nat} (h0 : ρs 0 = ρ0) (hn : ρs n = ρn) (h : ∀ i, i < n → fSt g body (.int (lo + i)) (ρs i) = some (.nx, ρs (i + 1))) : forRun g body (rngD lo n) ρ0 = some (.nx, ρn) := by
  rw [← h0, ← hn]
  exact forRun_rng ρs lo n h
def lcSc (g : Tg) : Res O → Option (Option D × Ev)
  | some (.ok (.p y), ρ3) => some (some y, hideAll ρ3 g.slots)
  | _ => none
def lcSb (g : Tg) (elt : Ev → Res O) : Res Bool → Option (Option D × Ev)
  | some (.ok b, ρ2) => if b = true then lcSc g (elt ρ2) else some (none, hideAll ρ2 g.slots)
  | _ => none
def lcSa (g : Tg) (cnd : Ev → Res Bool) (elt : Ev → Res O) : Option Ev → Option (Option D × Ev)
  | some ρ1 => lcSb g elt (cnd ρ1)
  | none => none
/-- one turn of a comprehension -/
def lcSt (g : Tg) (cnd : Ev → Res Bool) (elt : Ev → Res O) (d : D) (ρ : Ev) : Option (Option D × Ev) := lcSa g cnd elt (g.set d ρ)
theorem lcRun_st {g : Tg} {cnd : Ev → Res Bool} {elt : Ev → Res O} (f : D → Option D) {ρ : Ev} : ∀ {ds : List D}, (∀ d ∈ ds, lcSt g cnd elt d ρ = some (f d, ρ)) → lcRun g cnd elt ds ρ = some (ds.filterMap f, ρ)
  | [], _ => rfl
  | d :: ds, h => by
    have h1 := h d List.mem_cons_self
    have ih := lcRun_st f (ρ := ρ) (ds := ds) fun e he => h e (List.mem_cons_of_mem _ he)
    unfold lcSt at h1
    rw [lcRun]
    cases e : g.set d ρ with
    | none => rw [e] at h1; cases h1
    | some ρ1 =>
      rw [e] at h1
      have h1 : lcSb g elt (cnd ρ1) = some (f d, ρ) := h1
      dsimp only
      rcases hc : cnd ρ1 with _ | ⟨b, ρ2⟩
      · rw [hc] at h1; cases h1
      · rw [hc] at h1
        cases b with
        | ex x => cases h1
        | ok b =>
          cases b with
          | false =>
            have h1 : some ((none : Option D), hideAll ρ2 g.slots) = some (f d, ρ) := h1
            obtain ⟨h2, h3⟩ := Prod.mk.inj (Option.some.inj h1)
            dsimp only
            rw [h3, ih, List.filterMap_cons_none h2.symm]
          | true =>
            have h1 : lcSc g (elt ρ2) = some (f d, ρ) := h1
            dsimp only
            rcases he : elt ρ2 with _ | ⟨r, ρ3⟩
            · rw [he] at h1; cases h1
            · rw [he] at h1
              cases r with
              | ex x => cases h1
              | ok o =>
                cases o with
                | p y =>
                  have h1 : some (some y, hideAll ρ3 g.slots) = some (f d, ρ) := h1
                  obtain ⟨h2, h3⟩ := Prod.mk.inj (Option.some.inj h1)
                  dsimp only
                  rw [h3, ih, List.filterMap_cons_some h2.symm]
                | _ => cases h1
theorem lcRun_app {g : Tg} {cnd : Ev → Res Bool} {elt : Ev → Res O} : ∀ {d : D} {ds : List D} {ρ ρ2 : Ev} {ys : List D}, lcRun g cnd elt [d] ρ = some (ys, ρ2) → lcRun g cnd elt (d :: ds) ρ = match lcRun g cnd elt ds ρ2 with
    | some (zs, ρ3) => some (ys ++ zs, ρ3)
    | none => none := fun {d ds ρ ρ2 ys} h => by
  rw [lcRun] at h ⊢
  cases e : g.set d ρ with
  | none => rw [e] at h; cases h
  | some ρ1 =>
    rw [e] at h
    dsimp only at h ⊢
    rcases hc : cnd ρ1 with _ | ⟨b, ρb⟩
    · rw [hc] at h; cases h
    · rw [hc] at h
      cases b with
      | ex x => cases h
      | ok b =>
        cases b with
        | false =>
          dsimp only at h ⊢
          rw [lcRun] at h
          cases h
          rcases lcRun g cnd elt ds (hideAll ρb g.slots) with _ | ⟨zs, ρ3⟩ <;> rfl
        | true =>
          dsimp only at h ⊢
          rcases he : elt ρb with _ | ⟨r, ρc⟩
          · rw [he] at h; cases h
          · rw [he] at h
            cases r with
            | ex x => cases h
            | ok o =>
              cases o with
              | p y =>
                dsimp only at h ⊢
                rw [lcRun] at h
                cases h
                rcases lcRun g cnd elt ds (hideAll ρc g.slots) with _ | ⟨zs, ρ3⟩ <;> rfl
              | _ => cases h
/-- [q(x) for x in xs if p(x)] -/
theorem lcRun_pq {α : Type} {g : Tg} {cnd : Ev → Res Bool} {elt : Ev → Res O} (r : α → D) (p : α → Bool) (q : α → D) {ρ : Ev} {xs : List α} (h : ∀ x ∈ xs, lcSt g cnd elt (r x) ρ = some (if p x = true then some (q x) else none, ρ)) : lcRun g cnd elt (xs.map r) ρ = some ((xs.filter p).map q, ρ) := by
  have key : ∀ ys : List α, (∀ x ∈ ys, x ∈ xs) → lcRun g cnd elt (ys.map r) ρ = some ((ys.filter p).map q, ρ) := by
    intro ys
    induction ys with
    | nil => intro _; rfl
    | cons y ys ih =>
      intro hy
      have h1 := h y (hy y List.mem_cons_self)
      have h2 := ih fun x hx => hy x (List.mem_cons_of_mem _ hx)
      have e1 := lcRun_st (g := g) (cnd := cnd) (elt := elt) (fun _ => if p y = true then some (q y) else none) (ρ := ρ) (ds := [r y]) fun d hd => by
        rw [List.mem_singleton.mp hd]; exact h1
      rw [List.map_cons, lcRun_app e1, h2]
      by_cases hp : p y = true
      · rw [List.filter_cons_of_pos hp, if_pos hp]
        rfl
      · rw [List.filter_cons_of_neg hp, if_neg hp]
        rfl
  exact key xs fun _ h => h
/-- [q(x) for x in xs] -/
theorem lcRun_q {α : Type} {g : Tg} {cnd : Ev → Res Bool} {elt : Ev → Res O} (r : α → D) (q : α → D) {ρ : Ev} {xs : List α} (h : ∀ x ∈ xs, lcSt g cnd elt (r x) ρ = some (some (q x), ρ)) : lcRun g cnd elt (xs.map r) ρ = some (xs.map q, ρ) := by
  have := lcRun_pq (g := g) (cnd := cnd) (elt := elt) r (fun _ => true) q (ρ := ρ) (xs := xs) fun x hx => by rw [if_pos rfl]; exact h x hx
  rw [List.filter_eq_self.mpr fun _ _ => rfl] at this
  exact this
theorem ret_ex {asn : List Nat} {n : Nat} {x : Ex} {ρ : Ev} {r : R O} : Ret (finC asn n (some (.ex x, ρ))) r ↔ R.ex x = r := ⟨fun ⟨_, h⟩ => by cases h; rfl, fun h => ⟨_, by rw [← h]; rfl⟩⟩
theorem intsD_map : ∀ (ns : List Int), intsD (ns.map .int) = some ns
  | [] => rfl
  | n :: ns => by
    show (intsD (ns.map .int)).map (n :: ·) = _
    rw [intsD_map ns]
    rfl
theorem ofString_inj {a b : String} : Str.ofString a = Str.ofString b ↔ a = b := by
  constructor
  · intro h
    rw [Str.ofString_eq_toList, Str.ofString_eq_toList] at h
    have h1 := congrArg (fun z : Str => z.cps.toList) h
    have h2 : a.toList.map Char.toNat = b.toList.map Char.toNat := h1
    have h3 : a.toList = b.toList := by
      have inj : ∀ {xs ys : List Char}, xs.map Char.toNat = ys.map Char.toNat → xs = ys := by
        intro xs
        induction xs with
        | nil => intro ys h; cases ys with
          | nil => rfl
          | cons y ys => cases h
        | cons x xs ih => intro ys h; cases ys with
          | nil => cases h
          | cons y ys =>
            rw [List.map_cons, List.map_cons] at h
            obtain ⟨e1, e2⟩ := List.cons.inj h
            rw [ih e2, Char.toNat_inj.mp e1]
      exact inj h2
    exact String.toList_inj.mp h3
  · intro h
    rw [h]
theorem str_beq {a b : String} : (Str.ofString a == Str.ofString b) = (a == b) := by
  by_cases h : a = b
  · rw [h, beq_self_eq_true, beq_self_eq_true]
  · rw [beq_eq_false_iff_ne.mpr h, beq_eq_false_iff_ne.mpr fun z => h (ofString_inj.mp z)]
theorem strOk_lit {a : String} : PyData.strOk (Str.ofString a) = true := by
  rw [strOk_iff, Str.ofString_eq_toList]
  intro c hc
  have hc : c ∈ a.toList.map Char.toNat := hc
  obtain ⟨d, _, rfl⟩ := List.mem_map.mp hc
  have := d.valid
  unfold Char.toNat
  have h3 : d.val.toNat < 0xd800 ∨ (0xdfff < d.val.toNat ∧ d.val.toNat < 0x110000) := this
  omega
theorem eqD_lit {a b : String} : eqD (.str (Str.ofString a)) (.str (Str.ofString b)) = some (a == b) := by
  rw [eqD_str strOk_lit strOk_lit, str_beq]
theorem plIsx_ev {t : Str} {tb : List (Str × Bool)} : (plIsx t tb).ev = evIsx tb := rfl
theorem plSortI_ev : (plSortI).ev = evSortI := rfl
theorem plTupRev_ev : (plTupRev).ev = evTupRev := rfl
theorem plIsB_ev {b : Bool} : (plIsB b).ev = evIsB b := rfl
theorem muInsert_ok : muInsert.ok = isLst := rfl
theorem muInsert_ev : muInsert.ev = lstEv mvInsert := rfl
theorem muPopAt_ok : muPopAt.ok = isLst := rfl
theorem muPopAt_ev : muPopAt.ev = lstEv mvPopAt := rfl
theorem muPop_ok : muPop.ok = isLst := rfl
theorem muPop_ev : muPop.ev = lstEv mvPop := rfl
theorem muClear_ok : muClear.ok = isLst := rfl
theorem muClear_ev : muClear.ev = lstEv mvClear := rfl
theorem muCount_ok : muCount.ok = isLsts := rfl
theorem muCount_ev : muCount.ev = rdEv mvCount := rfl
def orD : Option Bool → Option Bool → Option Bool
  | some u, some v => some (u || v)
  | _, _ => none
theorem orD_some {u v : Bool} : orD (some u) (some v) = some (u || v) := rfl
theorem inD_cons {a b : D} {bs : List D} : inD a (b :: bs) = orD (eqD b a) (inD a bs) := by
  rw [inD]
  cases eqD b a with
  | none => rfl
  | some u => cases inD a bs <;> rfl
theorem inD_nil_bl {b : Bool} : inD (.bl b) [] = some false := rfl
theorem inD_nil_int {b : Int} : inD (.int b) [] = some false := rfl
theorem inD_nil_non : inD .non [] = some false := rfl
theorem inD_nil_lit {b : String} : inD (.str (Str.ofString b)) [] = some false := by
  unfold inD D.dep
  rw [strOk_lit]
  rfl
theorem eqD_non : eqD .non .non = some true := rfl
theorem eqD_non_int {i : Int} : eqD .non (.int i) = some false := rfl
theorem eqD_int_non {i : Int} : eqD (.int i) .non = some false := rfl
theorem beq_ff : (false == false) = true := rfl
theorem beq_tf : (true == false) = false := rfl
theorem beq_ft : (false == true) = false := rfl
theorem beq_tt : (true == true) = true := rfl
structure Eqr {α : Type} [DecidableEq α] (r : α → D) (n : Nat) : Prop where
  dep : ∀ x, (r x).dep ≤ n
  eq : ∀ x y, PyData.eqv (r x).py (r y).py = decide (x = y)
section
variable {α β : Type} [DecidableEq α] [DecidableEq β] {r : α → D} {q : β → D} {n m : Nat}
theorem Eqr.mono (h : Eqr r n) (l : n ≤ m) : Eqr r m := ⟨fun x => Nat.le_trans (h.dep x) l, h.eq⟩
end
theorem at50 {a b c d e : D} : L2.atI [a, b, c, d, e] 0 = some a := rfl
theorem at51 {a b c d e : D} : L2.atI [a, b, c, d, e] 1 = some b := rfl
theorem at52 {a b c d e : D} : L2.atI [a, b, c, d, e] 2 = some c := rfl
theorem at53 {a b c d e : D} : L2.atI [a, b, c, d, e] 3 = some d := rfl
theorem at54 {a b c d e : D} : L2.atI [a, b, c, d, e] 4 = some e := rfl
theorem at40 {a b c d : D} : L2.atI [a, b, c, d] 0 = some a := rfl
theorem at41 {a b c d : D} : L2.atI [a, b, c, d] 1 = some b := rfl
theorem at42 {a b c d : D} : L2.atI [a, b, c, d] 2 = some c := rfl
theorem at43 {a b c d : D} : L2.atI [a, b, c, d] 3 = some d := rfl
theorem at30 {a b c : D} : L2.atI [a, b, c] 0 = some a := rfl
theorem at31 {a b c : D} : L2.atI [a, b, c] 1 = some b := rfl
theorem at32 {a b c : D} : L2.atI [a, b, c] 2 = some c := rfl
theorem at20 {a b : D} : L2.atI [a, b] 0 = some a := rfl
theorem at21 {a b : D} : L2.atI [a, b] 1 = some b := rfl
theorem at10 {a : D} : L2.atI [a] 0 = some a := rfl
theorem at9 {a0 a1 a2 a3 a4 a5 a6 a7 a8 : D} : L2.atI [a0, a1, a2, a3, a4, a5, a6, a7, a8] 0 = some a0 ∧ L2.atI [a0, a1, a2, a3, a4, a5, a6, a7, a8] 1 = some a1 ∧ L2.atI [a0, a1, a2, a3, a4, a5, a6, a7, a8] 2 = some a2 ∧ L2.atI [a0, a1, a2, a3, a4, a5, a6, a7, a8] 3 = some a3 ∧ L2.atI [a0, a1, a2, a3, a4, a5, a6, a7, a8] 4 = some a4 ∧ L2.atI [a0, a1, a2, a3, a4, a5, a6, a7, a8] 5 = some a5 ∧ L2.atI [a0, a1, a2, a3, a4, a5, a6, a7, a8] 6 = some a6 ∧ L2.atI [a0, a1, a2, a3, a4, a5, a6, a7, a8] 7 = some a7 ∧ L2.atI [a0, a1, a2, a3, a4, a5, a6, a7, a8] 8 = some a8 := ⟨rfl, rfl, rfl, rfl, rfl, rfl, rfl, rfl, rfl⟩
end DV
namespace DV
open PySem PySem.Spec PyProof.Rows L2
def noSup : Expr → Bool
  | .Call (.Name _ _) [] [] _ => false
  | _ => true
def lookF (f : Str) : List Str → List D → Option D
  | n :: ns, d :: ds => if (f == n) = true then some d else lookF f ns ds
  | _, _ => none
def evFld (cs : List Str) (f : Str) : List O → Option O
  | [.p (.ins c ns ds)] => if c ∈ cs then (lookF f ns ds).map .p else none
  | _ => none
def sxFld (f : Str) (sc : Scope) : Expr → Option (List Expr)
  | .Attribute o m _ => if decide (m = f) && noSup o then some [o] else none
  | _ => none
def plFld (cs : List Str) (f : Str) : Plug := ⟨sxFld f, evFld cs f⟩
def sxMeth (m : Str) (n : Nat) (sc : Scope) : Expr → Option (Expr × List Expr)
  | .Call (.Attribute o m2 ap) xs [] cp => if decide (m2 = m) && (noSup o && (decide (xs.length = n) && (decide (n < 30) && (xs.all notStar && (ap.endLine == cp.line))))) then some (o, xs) else none
  | _ => none
def mtab (tab : List (Str × FS)) : D → Option FS
  | .ins c _ _ => tab.lookup c
  | _ => none
def mok (m : Str) (tab : List (Str × FS)) : D → Bool
  | .ins c ns _ => (tab.lookup c).isSome && !(ns.contains m)
  | _ => false
def mcH (m : Str) (n : Nat) (tab : List (Str × FS)) : CallH := ⟨sxMeth m n, mok m tab, fun d => (mtab tab d).getD fun _ => none⟩
theorem WPEs.len {X : Cx} : ∀ {es : List Expr} {σ : St} {H : Hp} {Q : List V → Hp → Prop}, WPEs X es σ H Q → WPEs X es σ H (fun vs H' => vs.length = es.length ∧ Q vs H')
  | [], _, _, _, h => ⟨rfl, h⟩
  | e :: es, σ, H, Q, h => WPE.mono h fun v H1 q => WPEs.mono (WPEs.len q) fun vs H2 z => ⟨by rw [List.length_cons, List.length_cons, z.1], z.2⟩
end DV
namespace DV
open PySem PySem.Spec PyProof.Rows L2
theorem upd_same {H : Hp} {a : Addr} {x : HO} (h : H a = some x) : upd H a x = H := by
  funext b
  unfold upd
  split
  · subst_vars; exact h.symm
  · rfl
def sxMk (c : Str) (n : Nat) (sc : Scope) : Expr → Option (List Expr)
  | .Call (.Name m _) xs [] _ => if decide (m = c) && (glName sc c && (xs.all notStar && decide (xs.length = n))) then some xs else none
  | _ => none
def mkSem (c : Str) (fs : List Str) : FS := fun os => match pures os with
  | some ds => if ds.length = fs.length then some (.ok (.p (.ins c fs ds)), os.map some) else none
  | none => none
def mkC (c : Str) (fs : List Str) : CallD := ⟨sxMk c fs.length, mkSem c fs⟩
end DV
namespace DV
open PySem PySem.Spec PyProof.Rows L2
def evIsC (tb : List (Str × Bool)) : List O → Option O
  | [.p (.ins c _ _)] => match tb.lookup c with
    | some b => some (.p (.bl b))
    | none => none
  | _ => none
def plIsC (t : Str) (tb : List (Str × Bool)) : Plug := ⟨sxIsx t, evIsC tb⟩
section
variable {f c m : Str} {cs ns : List Str} {ds : List D} {os : List O} {n : Nat} {tab : List (Str × FS)} {tb : List (Str × Bool)} {ρ : Ev} {es : List E} {e : E}
theorem plFld_ev : (plFld cs f).ev os = evFld cs f os := rfl
theorem evFld_ins : evFld cs f [.p (.ins c ns ds)] = if c ∈ cs then (lookF f ns ds).map .p else none := rfl
theorem lookF_cons {g : Str} {d : D} : lookF f (g :: ns) (d :: ds) = if (f == g) = true then some d else lookF f ns ds := rfl
theorem plIsC_ev {t : Str} : (plIsC t tb).ev os = evIsC tb os := rfl
def isCB : Option Bool → Option O
  | some b => some (.p (.bl b))
  | none => none
theorem evIsC_ins : evIsC tb [.p (.ins c ns ds)] = isCB (tb.lookup c) := by
  show (match tb.lookup c with
    | some b => some (O.p (.bl b))
    | none => none) = _
  cases tb.lookup c <;> rfl
theorem mkC_sem : (mkC c ns).sem os = mkSem c ns os := rfl
def mkB (c : Str) (fs : List Str) (os : List O) : Option (List D) → Option (R O × List (Option O))
  | some ds => if ds.length = fs.length then some (.ok (.p (.ins c fs ds)), os.map some) else none
  | none => none
theorem mkSem_eq : mkSem c ns os = mkB c ns os (pures os) := by
  unfold mkSem mkB
  cases pures os <;> rfl
theorem mcH_ok : (mcH m n tab).ok (.ins c ns ds) = ((tab.lookup c).isSome && !(ns.contains m)) := rfl
theorem mcH_sem : (mcH m n tab).sem (.ins c ns ds) = (tab.lookup c).getD fun _ => none := rfl
end
end DV
namespace DV
open PySem PySem.Spec PyProof.Rows L2
/-- where a key stands -/
def kix (k : NestedKey) : List D → Option Nat
  | [] => none
  | d :: ds => if nkD d = some k then some 0 else (kix k ds).map (· + 1)
/-- a key -/
def tkey : D → Option NestedKey
  | .tup ds => match nkD (.tup ds) with
    | some k => if k.depth ≤ 8 then some k else none
    | none => none
  | _ => none
def dIn (ks : List D) (k : D) : Option Bool := match tkey k with
  | some kk => some (kix kk ks).isSome
  | none => none
def dGetI (xs : List D) : Option Nat → Option (Option D)
  | none => some none
  | some i => match xs[i]? with
    | some x => some (some x)
    | none => none
def dGet (ks xs : List D) (k : D) : Option (Option D) := match tkey k with
  | some kk => dGetI xs (kix kk ks)
  | none => none
def dPutI (ks xs : List D) (k v : D) : Option Nat → Option (List D × List D)
  | none => if ks.length < sizeLine then some (ks ++ [k], xs ++ [v]) else none
  | some i => some (ks, xs.set i v)
def dPut (ks xs : List D) (k v : D) : Option (List D × List D) := match tkey k with
  | some kk => dPutI ks xs k v (kix kk ks)
  | none => none
/-- a dict's keys and values -/
def dctOf : O → Option (List D × List D)
  | .p (.dct ks xs) => some (ks, xs)
  | .dct ks xs => some (ks, xs)
  | _ => none
def dctKs : O → Option (List D)
  | .p (.dct ks _) => some ks
  | .dct ks _ => some ks
  | .od ks _ => some ks
  | _ => none
section
variable {X : Cx} {pins : List (Addr × Obj)} {σ : St} {H : Hp} {s : Shared}
mutual
theorem nis_of (I : Inv X pins σ H s) : ∀ {d : D} {v : V} {u : Value} {k : NestedKey}, RepD (gl X) H d v → RelV v u → nkD d = some k → NestedIs s.heap k u
  | .non, v, u, k, r, rv, e => by
    cases e
    rw [r.non'] at rv
    obtain rfl : u = Value.none := rv
    exact .none
  | .bl b, v, u, k, r, rv, e => by
    cases e
    rw [r.bl'] at rv
    obtain rfl : u = Value.bool b := rv
    exact .bool rfl
  | .int i, v, u, k, r, rv, e => by
    cases e
    rw [r.int'] at rv
    obtain ⟨t, rfl⟩ : ∃ t, u = Value.int i t := rv
    exact .int i t
  | .str z, v, u, k, r, rv, e => by
    cases e
    rw [r.str'] at rv
    obtain ⟨t, rfl⟩ : ∃ t, u = Value.str z t := rv
    exact .text z t
  | .tup ds, v, u, k, r, rv, e => by
    unfold nkD at e
    cases e1 : nkDs ds with
    | none => rw [e1] at e; cases e
    | some ks =>
      rw [e1] at e
      cases e
      obtain ⟨a, vs, rfl, h1, h2⟩ := repD_tup r
      obtain rfl : u = Value.ref a := rv
      obtain ⟨its, rvs, ⟨o, ho, hc, n, hd⟩, _⟩ := I.tuple h1
      exact .tup ho hc hd (by simpa using niss_of I h2 rvs e1)
  | .lst _, _, _, _, _, _, e => by cases e
  | .dct _ _, _, _, _, _, _, e => by cases e
  | .ins _ _ _, _, _, _, _, _, e => by cases e
  | .exc _ _ _, _, _, _, _, _, e => by cases e
theorem niss_of (I : Inv X pins σ H s) : ∀ {ds : List D} {vs : List V} {us : List Value} {ks : List NestedKey}, RepDs (gl X) H ds vs → Vals vs us → nkDs ds = some ks → NestedAll s.heap ks us
  | [], vs, us, ks, r, rv, e => by
    cases e
    unfold RepDs at r
    subst r
    cases rv
    exact .nil
  | d :: ds, vs, us, ks, r, rv, e => by
    unfold RepDs at r
    obtain ⟨v, w, rfl, r1, r2⟩ := r
    cases rv with
    | cons q qs =>
      unfold nkDs at e
      cases e1 : nkD d with
      | none => rw [e1] at e; cases e
      | some k =>
        cases e2 : nkDs ds with
        | none => rw [e1, e2] at e; cases e
        | some kk =>
          rw [e1, e2] at e
          cases e
          exact .cons (nis_of I r1 q e1) (niss_of I r2 qs e2)
end
/-- the entries -/
def ents (es : List (NestedKey × Addr)) (us : List Value) : List (NestedKey × Addr × Value) := List.zipWith (fun (e : NestedKey × Addr) (u : Value) => (e.1, e.2, u)) es us
theorem nkDs_cons {d : D} {ds : List D} {l : List NestedKey} (h : nkDs (d :: ds) = some l) : ∃ k ks, l = k :: ks ∧ nkD d = some k ∧ nkDs ds = some ks := by
  unfold nkDs at h
  cases e1 : nkD d with
  | none => rw [e1] at h; cases h
  | some k =>
    cases e2 : nkDs ds with
    | none => rw [e1, e2] at h; cases h
    | some ks => rw [e1, e2] at h; cases h; exact ⟨k, ks, rfl, rfl, rfl⟩
theorem keys_is (I : Inv X pins σ H s) : ∀ {ks : List D} {es : List (NestedKey × Addr)}, nkDs ks = some (es.map (·.1)) → RepDs (gl X) H ks (kRefs es) → ∀ e ∈ es, NestedIs s.heap e.1 (.ref e.2)
  | _, [], _, _, e, he => absurd he (by simp)
  | [], e0 :: es, h, _, e, he => by cases h
  | d :: ks, e0 :: es, h, r, e, he => by
    obtain ⟨k, l, e1, h1, h2⟩ := nkDs_cons h
    obtain ⟨rfl, rfl⟩ := List.cons.inj e1
    unfold kRefs RepDs at r
    obtain ⟨v, w, e2, r1, r2⟩ := r
    obtain ⟨rfl, rfl⟩ := List.cons.inj e2
    rcases List.mem_cons.mp he with rfl | he
    · exact nis_of I r1 (show RelV (.ref e.2) (.ref e.2) from rfl) h1
    · exact keys_is I h2 r2 e he
theorem ents_cons {e : NestedKey × Addr} {es : List (NestedKey × Addr)} {u : Value} {us : List Value} : ents (e :: es) (u :: us) = (e.1, e.2, u) :: ents es us := rfl
theorem ents_mem : ∀ {es : List (NestedKey × Addr)} {us : List Value} {x : NestedKey × Addr × Value}, x ∈ ents es us → (x.1, x.2.1) ∈ es
  | [], us, x, h => by unfold ents at h; simp at h
  | e :: es, [], x, h => by unfold ents at h; simp at h
  | e :: es, u :: us, x, h => by
    rw [ents_cons] at h
    rcases List.mem_cons.mp h with rfl | h
    · exact List.mem_cons_self
    · exact List.mem_cons_of_mem _ (ents_mem h)
theorem ents_keys : ∀ {es : List (NestedKey × Addr)} {us : List Value}, es.length = us.length → (ents es us).map (·.1) = es.map (·.1)
  | [], us, h => by unfold ents; simp
  | e :: es, [], h => by simp at h
  | e :: es, u :: us, h => by
    rw [ents_cons, List.map_cons, List.map_cons, ents_keys (by simpa using h)]
/-- a dict's object, by the library's word -/
theorem dicO_at (I : Inv X pins σ H s) {a : Addr} {es : List (NestedKey × Addr)} {ws : List V} {ks : List D} {ep : Nat} (h : H a = some (DicO X.w a ep es ws)) (nk : nkDs ks = some (es.map (·.1))) (rk : RepDs (gl X) H ks (kRefs es)) :
    (a == sysModules) = false ∧ es.length ≤ sizeLine ∧ ∃ us, Vals ws us ∧ es.length = us.length ∧ s.heap.DictOfH (nestedKind X.prog X.w) a (ents es us) := by
  obtain ⟨⟨h1, h2, h3, h4, us, h5, h6, o, ar, h7, h8, h9, h10⟩, _, _⟩ := I.hok a _ h
  refine ⟨h1, h2, us, h5, h6, o, ar, ep, h7, h8, h9, h10, fun x hx => ?_, by rw [ents_keys h6]; exact h3⟩
  have hm := ents_mem hx
  exact ⟨keys_is I nk rk _ hm, h4 _ hm⟩
end
end DV
namespace DV
open PySem PySem.Spec PyProof.Rows L2
/-- a dict stands there -/
structure DAt (X : Cx) (H : Hp) (a : Addr) (ks : List D) (es : List (NestedKey × Addr)) (ws : List V) : Prop where
  o : ∃ ep, H a = some (DicO X.w a ep es ws)
  nk : nkDs ks = some (es.map (·.1))
  rk : RepDs (gl X) H ks (kRefs es)
section
variable {X : Cx} {pins : List (Addr × Obj)} {σ : St} {H : Hp} {s : Shared} {a : Addr} {ks : List D} {es : List (NestedKey × Addr)} {ws : List V} {k : D} {kk : NestedKey} {y : V} {u : Value} {A : Around} {E : Value → Shared → Prop}
theorem DAt.type (I : Inv X pins σ H s) (d : DAt X H a ks es ws) : s.TypeIs (.ref a) "dict" := by
  obtain ⟨_, _, us, _, _, h⟩ := dicO_at I d.o.choose_spec d.nk d.rk
  exact h.typeIs
end
end DV
namespace DV
open PySem PySem.Spec PyProof.Rows L2
def evInD (n : Bool) : List O → Option O
  | [.p k, o] => match dctKs o with
    | some ks => match dIn ks k with
      | some b => some (.p (.bl (b != n)))
      | none => none
    | none => none
  | _ => none
def sxInD (n : Bool) (sc : Scope) : Expr → Option (List Expr)
  | .Compare a ops [b] _ => if ops = [if n = true then .NotIn else .In] ∧ notSet b = true then some [a, b] else none
  | _ => none
def plInD (n : Bool) : Plug := ⟨sxInD n, evInD n⟩
def evDGet : List O → Option O
  | [o, .p k] => match dctOf o with
    | some (ks, xs) => match dGet ks xs k with
      | some (some x) => some (.p x)
      | _ => none
    | none => none
  | _ => none
def sxDGet (sc : Scope) : Expr → Option (List Expr)
  | .Subscript o ix _ => if notSlice ix then some [o, ix] else none
  | _ => none
def plDGet : Plug := ⟨sxDGet, evDGet⟩
def sxDNew (sc : Scope) : Expr → Option (List Expr)
  | .Dict [] [] _ => some []
  | _ => none
def plDNew : Plug := ⟨sxDNew, fun os => match os with | [] => some (.dct [] []) | _ => none⟩
def isDct (o : O) : Bool := (dctOf o).isSome
def evDGet1 (o : O) : List O → Option (O × D)
  | [.p k] => match dctOf o with
    | some (ks, xs) => match dGet ks xs k with
      | some (some x) => some (o, x)
      | some none => some (o, .non)
      | none => none
    | none => none
  | _ => none
def evDGet2 (o : O) : List O → Option (O × D)
  | [.p k, .p z] => match dctOf o with
    | some (ks, xs) => match dGet ks xs k with
      | some (some x) => some (o, x)
      | some none => some (o, z)
      | none => none
    | none => none
  | _ => none
def muDGet1 : MutD := ⟨"get", isDct, evDGet1⟩
def muDGet2 : MutD := ⟨"get", isDct, evDGet2⟩
end DV
namespace DV
open PySem PySem.Spec PyProof.Rows L2
theorem repDs_one {g : Gl} {F : Hp} {d : D} {v : V} (r : RepD g F d v) : RepDs g F [d] [v] := by
  unfold RepDs RepDs
  exact ⟨v, [], rfl, r, rfl⟩
def evSetD : O → List O → Option D → Option O
  | .dct ks xs, [.p v, .p k], none => match dPut ks xs k v with
    | some (ks', xs') => some (.dct ks' xs')
    | none => none
  | _, _, _ => none
def sxSetD (sc : Scope) : Stmt → Option (Expr × List Expr × Option Expr)
  | .Assign [.Subscript o ix _] x _ => if notSlice ix = true then some (o, [x, ix], none) else none
  | _ => none
def isDctO : O → Bool
  | .dct _ _ => true
  | _ => false
def smSetD : SMut := ⟨sxSetD, isDctO, evSetD⟩
def odOf : O → Option (List D × List O)
  | .od ks os => some (ks, os)
  | .dct [] [] => some ([], [])
  | _ => none
def isOd (o : O) : Bool := (odOf o).isSome
def evSetL (o : O) : List O → Option D → Option O
  | [], some k => match odOf o with
    | some (ks, os) => match tkey k with
      | some kk => match kix kk ks with
        | none => if ks.length < sizeLine then some (.od (ks ++ [k]) (os ++ [.lst []])) else none
        | some _ => none
      | none => none
    | none => none
  | _, _ => none
def sxSetL (sc : Scope) : Stmt → Option (Expr × List Expr × Option Expr)
  | .Assign [.Subscript o (.Name n np) _] (.List [] _) _ => some (o, [], some (.Name n np))
  | _ => none
def smSetL : SMut := ⟨sxSetL, isOd, evSetL⟩
end DV
namespace DV
open PySem PySem.Spec PyProof.Rows L2
def sxRx (c : Str) (n : Nat) (sc : Scope) : Stmt → Option (List Expr)
  | .Raise (some (.Call (.Name m _) xs [] _)) none _ => if decide (m = c) && (glName sc c && (xs.all notStar && decide (xs.length = n))) then some xs else none
  | _ => none
def evRx (c : Str) (fs : List Str) : List O → Option Ex := fun os => match pures os with
  | some ds => if ds.length = fs.length then some ⟨c, fs.reverse, ds.reverse⟩ else none
  | none => none
def rxF (c : Str) (fs : List Str) : RaiseD := ⟨sxRx c fs.length, evRx c fs⟩
theorem RepDs.rev {g : Gl} {F : Hp} : ∀ {ds : List D} {vs : List V}, RepDs g F ds vs → RepDs g F ds.reverse vs.reverse
  | [], vs, r => by
    unfold RepDs at r
    rw [r]
    unfold RepDs
    rfl
  | d :: ds, vs, r => by
    unfold RepDs at r
    obtain ⟨v, vs2, rfl, r1, r2⟩ := r
    rw [List.reverse_cons, List.reverse_cons]
    exact (RepDs.rev r2).append (repDs_one r1)
def evFldX (cs : List Str) (f : Str) : List O → Option O
  | [.p (.exc c ns ds)] => if c ∈ cs then (lookF f ns ds).map .p else none
  | _ => none
def plFldX (cs : List Str) (f : Str) : Plug := ⟨sxFld f, evFldX cs f⟩
def evRxB (c : Str) (fs : List Str) : Option (List D) → Option Ex
  | some ds => if ds.length = fs.length then some ⟨c, fs.reverse, ds.reverse⟩ else none
  | none => none
theorem rxF_ev {c : Str} {fs : List Str} {os : List O} : (rxF c fs).ev os = evRx c fs os := rfl
theorem evRx_eq {c : Str} {fs : List Str} {os : List O} : evRx c fs os = evRxB c fs (pures os) := by
  unfold evRx evRxB
  cases pures os <;> rfl
theorem plFldX_ev {cs : List Str} {f : Str} : (plFldX cs f).ev = evFldX cs f := rfl
theorem evFldX_exc {cs : List Str} {f c : Str} {ns : List Str} {ds : List D} : evFldX cs f [.p (.exc c ns ds)] = if c ∈ cs then (lookF f ns ds).map .p else none := rfl
end DV
namespace DV
open PySem PySem.Spec PyProof.Rows L2
def sxCallT (f : Str) (sc : Scope) : Expr → Option (List Expr)
  | .Call (.Name m _) [a] [] _ => if decide (m = f) && (glName sc f && notStar a) then some [a] else none
  | _ => none
theorem sxCallT_some {f : Str} {sc : Scope} {x : Expr} {xs : List Expr} (h : sxCallT f sc x = some xs) : ∃ np cp a, x = .Call (.Name f np) [a] [] cp ∧ glName sc f = true ∧ notStar a = true ∧ xs = [a] := by
  unfold sxCallT at h
  split at h
  · split at h
    · rename_i hc
      cases h
      simp only [Bool.and_eq_true, decide_eq_true_eq] at hc
      obtain ⟨rfl, h1, h2⟩ := hc
      exact ⟨_, _, _, rfl, h1, h2, rfl⟩
    · cases h
  · cases h
def strI (i : Int) : Str := (toString i : String)
def evStr : List O → Option O
  | [.p (.int i)] => if i.natAbs.log2 < 1920 then some (.p (.str (strI i))) else none
  | [.p (.str a)] => some (.p (.str a))
  | _ => none
def plStr : Plug := ⟨sxCallT "str", evStr⟩
def txtsD : List D → Option (List Str)
  | [] => some []
  | .str z :: r => (txtsD r).map (z :: ·)
  | _ => none
def sxJoin (z : Str) (sc : Scope) : Expr → Option (List Expr)
  | .Call (.Attribute (.Constant (.str y) _ _) m ap) [a] [] cp => if decide (y = z) && (decide (m = "join") && (notStar a && (ap.endLine == cp.line))) then some [a] else none
  | _ => none
def evJoinB (z : Str) : Option (List Str) → Option O
  | some ys => if (ys.map (·.length)).sum + ys.length * z.length ≤ 16777216 then some (.p (.str (Txt.join z ys))) else none
  | none => none
def evJoinA (z : Str) : Option (List D) → Option O
  | some ds => evJoinB z (txtsD ds)
  | none => none
def evJoin (z : Str) : List O → Option O
  | [o] => evJoinA z o.lsts
  | _ => none
def plJoin (z : Str) : Plug := ⟨sxJoin z, evJoin z⟩
theorem plStr_ev : plStr.ev = evStr := rfl
theorem evStr_int {i : Int} : evStr [.p (.int i)] = if i.natAbs.log2 < 1920 then some (.p (.str (strI i))) else none := rfl
theorem evStr_str {a : Str} : evStr [.p (.str a)] = some (.p (.str a)) := rfl
theorem plJoin_ev {z : Str} : (plJoin z).ev = evJoin z := rfl
theorem evJoin_eq {z : Str} {o : O} : evJoin z [o] = evJoinA z o.lsts := rfl
theorem evJoinA_eq {z : Str} {ds : List D} : evJoinA z (some ds) = evJoinB z (txtsD ds) := rfl
theorem evJoinB_eq {z : Str} {ys : List Str} : evJoinB z (some ys) = if (ys.map (·.length)).sum + ys.length * z.length ≤ 16777216 then some (.p (.str (Txt.join z ys))) else none := rfl
end DV
namespace DV
open PySem PySem.Spec PyProof.Rows L2
def sxIt1 (f : Str) (sc : Scope) (tg : Expr) : Expr → Option (List Expr)
  | .Call (.Name m _) [a] [] _ => if decide (m = f) && (glName sc f && notStar a) then some [a] else none
  | _ => none
def isTupE : Expr → Bool
  | .Tuple _ _ _ => true
  | _ => false
def sxItT1 (f : Str) (sc : Scope) (tg x : Expr) : Option (List Expr) := if isTupE tg then sxIt1 f sc tg x else none
def evItRev : List O → Option (List D)
  | [o] => match o.lsts with
    | some ds => some ds.reverse
    | none => none
  | _ => none
def itpRev : ItP := ⟨sxIt1 "reversed", evItRev⟩
def evItEnum : List O → Option (List D)
  | [o] => match o.lsts with
    | some ds => some (enumD 0 ds)
    | none => none
  | _ => none
def itpEnum : ItP := ⟨sxItT1 "enumerate", evItEnum⟩
def sxZip (sc : Scope) (tg : Expr) : Expr → Option (List Expr)
  | .Call (.Name m _) [a, b] [] _ => if decide (m = "zip") && (glName sc "zip" && (notStar a && (notStar b && isTupE tg))) then some [a, b] else none
  | _ => none
def evItZip : List O → Option (List D)
  | [a, b] => match a.lsts, b.lsts with
    | some x, some y => some (zipD x y)
    | _, _ => none
  | _ => none
def itpZip : ItP := ⟨sxZip, evItZip⟩
end DV
namespace DV
open PySem PySem.Spec PyProof.Rows L2
def evRepB (k : Int) : Option (List D) → Option O
  | some ds => if -(2 ^ 63) ≤ k ∧ k < 2 ^ 63 ∧ ds.length * k.toNat ≤ sizeLine then some (.lst (List.replicate k.toNat ds).flatten) else none
  | none => none
def evRep : List O → Option O
  | [o, .p (.int k)] => evRepB k o.lsts
  | _ => none
def sxRep (sc : Scope) : Expr → Option (List Expr)
  | .BinOp a .Mult b _ => some [a, b]
  | _ => none
def plRep : Plug := ⟨sxRep, evRep⟩
theorem RepDs.app {g : Gl} {F : Hp} : ∀ {a b : List D} {u v : List V}, RepDs g F a u → RepDs g F b v → RepDs g F (a ++ b) (u ++ v) := fun h1 h2 => h1.append h2
def sxLenSet (sc : Scope) : Expr → Option (List Expr)
  | .Call (.Name n _) [.Call (.Name m _) [a] [] _] [] _ => if decide (n = "len") && (decide (m = "set") && (glName sc "len" && (glName sc "set" && notStar a))) then some [a] else none
  | _ => none
/-- those met for the first time -/
def firsts (ns : List Int) : List Int := PyProof.Rows.firstMet (fun i => ns.getD i 0) ns.length
def evLenSet : List O → Option O
  | [o] => match o.lsts with
    | some ds => match intsD ds with
      | some ns => if ns.length ≤ 4000 then some (.p (.int (firsts ns).length)) else none
      | none => none
    | none => none
  | _ => none
def plLenSet : Plug := ⟨sxLenSet, evLenSet⟩
end DV
namespace DV
open PySem PySem.Spec PyProof.Rows L2
def isTup1 : D → Bool
  | .tup (_ :: _) => true
  | _ => false
def okSort (ds : List D) : Bool := ds.all (fun d => decide (d.dep ≤ 64)) && (ds.all (fun d => ds.all fun e => PySem.W.alike d.py e.py) && ds.all isTup1)
def sortD (ds : List D) : List D := ds.mergeSort (PySem.W.dataLe false D.py)
def evSortD : List O → Option O
  | [o] => match o.lsts with
    | some ds => if okSort ds = true then some (.lst (sortD ds)) else none
    | none => match dctKs o with
      | some ks => if okSort ks = true then some (.lst (sortD ks)) else none
      | none => none
  | _ => none
def plSortD : Plug := ⟨sxCall1 "sorted", evSortD⟩
end DV
namespace DV
open PySem PySem.Spec PyProof.Rows L2
def evKeys : List O → Option (List D)
  | [o] => dctKs o
  | _ => none
def itpKeys : ItP := ⟨fun _ _ it => some [it], evKeys⟩
def baseOk : Expr → Bool
  | .Call (.Name _ _) (_ :: _) _ _ => true
  | .Name _ _ => true
  | .Subscript _ _ _ => true
  | _ => false
def sxItems (sc : Scope) (tg : Expr) : Expr → Option (List Expr)
  | .Call (.Attribute o m ap) [] [] cp => if decide (m = "items") && ((ap.endLine == cp.line) && (baseOk o && isTupE tg)) then some [o] else none
  | _ => none
def itemsD : List D → List D → List D
  | k :: ks, x :: xs => .tup [k, x] :: itemsD ks xs
  | _, _ => []
def evItems : List O → Option (List D)
  | [o] => match dctOf o with
    | some (ks, xs) => if ks.length = xs.length then some (itemsD ks xs) else none
    | none => none
  | _ => none
def itpItems : ItP := ⟨sxItems, evItems⟩
def evLstK : List O → Option O
  | [o] => match dctKs o with
    | some ks => some (.lst ks)
    | none => none
  | _ => none
def plLstK : Plug := ⟨sxCall1 "list", evLstK⟩
def evLenK : List O → Option O
  | [o] => match dctKs o with
    | some ks => some (.p (.int ks.length))
    | none => none
  | _ => none
def plLenK : Plug := ⟨sxCall1 "len", evLenK⟩
end DV
namespace DV
open PySem PySem.Spec PyProof.Rows L2
def evDOne : List O → Option O
  | [.p k, .p v] => match tkey k with
    | some _ => some (.dct [k] [v])
    | none => none
  | _ => none
def sxDOne (sc : Scope) : Expr → Option (List Expr)
  | .Dict [some k] [v] _ => some [k, v]
  | _ => none
def plDOne : Plug := ⟨sxDOne, evDOne⟩
def sxAppD (sc : Scope) : Stmt → Option (Expr × List Expr × Option Expr)
  | .Expr (.Call (.Attribute (.Subscript o ix _) m ap) [.Name n np] [] cp) _ => if decide (m = "append") && ((ap.endLine == cp.line) && notSlice ix) then some (o, [ix], some (.Name n np)) else none
  | _ => none
def evAppDA (ks : List D) (os : List O) (x : D) : Option Nat → Option O
  | some i => match os[i]? with
    | some (.lst ds) => if ds.length < sizeLine then some (.od ks (os.set i (.lst (ds ++ [x])))) else none
    | _ => none
  | none => none
def evAppD (o : O) : List O → Option D → Option O
  | [.p k], some x => match odOf o with
    | some (ks, os) => match tkey k with
      | some kk => evAppDA ks os x (kix kk ks)
      | none => none
    | none => none
  | _, _ => none
def smAppD : SMut := ⟨sxAppD, isOd, evAppD⟩
end DV
namespace DV
open PySem PySem.Spec PyProof.Rows L2
def sortL (l : List (List Int)) : List (List Int) := l.mergeSort (fun a b => decide (a ≤ b))
def ddI : List (List Int) → List (List Int)
  | [] => []
  | x :: xs => if x ∈ ddI xs then ddI xs else x :: ddI xs
def tupI (ns : List Int) : D := .tup (ns.map .int)
def rowI : D → Option (List Int)
  | .tup ds => intsD ds
  | _ => none
def rowsI : List D → Option (List (List Int))
  | [] => some []
  | d :: ds => match rowI d, rowsI ds with
    | some r, some rs => some (r :: rs)
    | _, _ => none
def evenI (l : List (List Int)) : Bool := match l with
  | [] => true
  | a :: r => decide (1 ≤ a.length) && (a :: r).all fun b => decide (b.length = a.length) && b.all fun i => decide (0 ≤ i)
def evSortSet : List O → Option O
  | [o] => match o.lsts with
    | some ds => match rowsI ds with
      | some l => if (evenI l && decide (l.length < 64)) = true then some (.lst ((sortL (ddI l)).map tupI)) else none
      | none => none
    | none => none
  | _ => none
def sxSortSet (sc : Scope) : Expr → Option (List Expr)
  | .Call (.Name n _) [.Call (.Name m _) [a] [] _] [] _ => if decide (n = "sorted") && (decide (m = "set") && (glName sc "sorted" && (glName sc "set" && notStar a))) then some [a] else none
  | _ => none
def plSortSet : Plug := ⟨sxSortSet, evSortSet⟩
end DV
namespace DV
open PySem PySem.Spec PyProof.Rows L2
def sxSetApp (sc : Scope) : Stmt → Option (Expr × List Expr × Option Expr)
  | .Expr (.Call (.Attribute (.Call (.Attribute o m1 ap1) [k, .List [] _] [] cp1) m ap) [.Name n np] [] cp) _ => if decide (m1 = "setdefault") && (decide (m = "append") && ((ap1.endLine == cp1.line) && ((ap.endLine == cp.line) && notStar k))) then some (o, [k], some (.Name n np)) else none
  | _ => none
def evSetAppA (ks : List D) (os : List O) (k x : D) : Option Nat → Option O
  | some i => match os[i]? with
    | some (.lst ds) => if ds.length < sizeLine then some (.od ks (os.set i (.lst (ds ++ [x])))) else none
    | _ => none
  | none => some (.od (ks ++ [k]) (os ++ [.lst [x]]))
def evSetApp (o : O) : List O → Option D → Option O
  | [.p k], some x => match odOf o with
    | some (ks, os) => match tkey k with
      | some kk => if ks.length < sizeLine then evSetAppA ks os k x (kix kk ks) else none
      | none => none
    | none => none
  | _, _ => none
def smSetApp : SMut := ⟨sxSetApp, isOd, evSetApp⟩
end DV
namespace DV
open PySem PySem.Spec PyProof.Rows L2
def indB (n : Bool) : Option Bool → Option O
  | some b => some (.p (.bl (b != n)))
  | none => none
theorem plInD_ev {n : Bool} : (plInD n).ev = evInD n := rfl
theorem evInD_dct {n : Bool} {k : D} {ks xs : List D} : evInD n [.p k, .dct ks xs] = indB n (dIn ks k) := by
  show (match dIn ks k with | some b => some (O.p (.bl (b != n))) | none => none) = _
  cases dIn ks k <;> rfl
theorem evInD_frz {n : Bool} {k : D} {ks xs : List D} : evInD n [.p k, .p (.dct ks xs)] = indB n (dIn ks k) := by
  show (match dIn ks k with | some b => some (O.p (.bl (b != n))) | none => none) = _
  cases dIn ks k <;> rfl
theorem evInD_od {n : Bool} {k : D} {ks : List D} {os : List O} : evInD n [.p k, .od ks os] = indB n (dIn ks k) := by
  show (match dIn ks k with | some b => some (O.p (.bl (b != n))) | none => none) = _
  cases dIn ks k <;> rfl
theorem indB_some {n b : Bool} : indB n (some b) = some (.p (.bl (b != n))) := rfl
def getB : Option (Option D) → Option O
  | some (some x) => some (.p x)
  | _ => none
theorem plDGet_ev : plDGet.ev = evDGet := rfl
theorem evDGet_dct {ks xs : List D} {k : D} : evDGet [.dct ks xs, .p k] = getB (dGet ks xs k) := by
  show (match dGet ks xs k with | some (some x) => some (O.p x) | _ => none) = _
  cases h : dGet ks xs k with
  | none => rfl
  | some y => cases y <;> rfl
theorem evDGet_frz {ks xs : List D} {k : D} : evDGet [.p (.dct ks xs), .p k] = getB (dGet ks xs k) := by
  show (match dGet ks xs k with | some (some x) => some (O.p x) | _ => none) = _
  cases h : dGet ks xs k with
  | none => rfl
  | some y => cases y <;> rfl
theorem getB_some {x : D} : getB (some (some x)) = some (.p x) := rfl
theorem plDNew_ev : plDNew.ev [] = some (.dct [] []) := rfl
def oneB (k v : D) : Option NestedKey → Option O
  | some _ => some (.dct [k] [v])
  | none => none
theorem plDOne_ev {k v : D} : plDOne.ev [.p k, .p v] = oneB k v (tkey k) := by
  show (match tkey k with | some _ => some (O.dct [k] [v]) | none => none) = _
  cases tkey k <;> rfl
theorem oneB_some {k v : D} {kk : NestedKey} : oneB k v (some kk) = some (.dct [k] [v]) := rfl
def putB : Option (List D × List D) → Option O
  | some (ks, xs) => some (.dct ks xs)
  | none => none
theorem smSetD_ev {ks xs : List D} {k v : D} : smSetD.ev (.dct ks xs) [.p v, .p k] none = putB (dPut ks xs k v) := by
  show (match dPut ks xs k v with | some (ks', xs') => some (O.dct ks' xs') | none => none) = _
  cases h : dPut ks xs k v with
  | none => rfl
  | some p => cases p; rfl
theorem smSetD_ok {ks xs : List D} : smSetD.ok (.dct ks xs) = true := rfl
theorem putB_some {ks xs : List D} : putB (some (ks, xs)) = some (.dct ks xs) := rfl
def setlC (k : D) (ks : List D) (os : List O) : Option Nat → Option O
  | none => if ks.length < sizeLine then some (.od (ks ++ [k]) (os ++ [.lst []])) else none
  | some _ => none
def setlB (k : D) (ks : List D) (os : List O) : Option NestedKey → Option O
  | some kk => setlC k ks os (kix kk ks)
  | none => none
theorem smSetL_ok_dct : smSetL.ok (.dct [] []) = true := rfl
theorem smSetL_ok_od {ks : List D} {os : List O} : smSetL.ok (.od ks os) = true := rfl
theorem smSetL_ev {o : O} {k : D} : smSetL.ev o [] (some k) = evSetL o [] (some k) := rfl
theorem evSetL_dct {k : D} : evSetL (.dct [] []) [] (some k) = setlB k [] [] (tkey k) := by
  show (match tkey k with | some kk => (match kix kk [] with | none => if ([] : List D).length < sizeLine then some (O.od ([] ++ [k]) ([] ++ [O.lst []])) else none | some _ => none) | none => none) = _
  cases tkey k with
  | none => rfl
  | some kk => rfl
theorem evSetL_od {k : D} {ks : List D} {os : List O} : evSetL (.od ks os) [] (some k) = setlB k ks os (tkey k) := by
  show (match tkey k with | some kk => (match kix kk ks with | none => if ks.length < sizeLine then some (O.od (ks ++ [k]) (os ++ [O.lst []])) else none | some _ => none) | none => none) = _
  cases tkey k with
  | none => rfl
  | some kk =>
    show _ = setlC k ks os (kix kk ks)
    dsimp only
    cases kix kk ks <;> rfl
theorem setlB_some {k : D} {ks : List D} {os : List O} {kk : NestedKey} : setlB k ks os (some kk) = setlC k ks os (kix kk ks) := rfl
theorem setlC_none {k : D} {ks : List D} {os : List O} : setlC k ks os none = if ks.length < sizeLine then some (.od (ks ++ [k]) (os ++ [.lst []])) else none := rfl
def appdB (ks : List D) (os : List O) (x : D) : Option NestedKey → Option O
  | some kk => evAppDA ks os x (kix kk ks)
  | none => none
theorem smAppD_ok {ks : List D} {os : List O} : smAppD.ok (.od ks os) = true := rfl
theorem smAppD_ev {o : O} {es : List O} {x : Option D} : smAppD.ev o es x = evAppD o es x := rfl
theorem evAppD_od {ks : List D} {os : List O} {k x : D} : evAppD (.od ks os) [.p k] (some x) = appdB ks os x (tkey k) := by
  show (match tkey k with | some kk => evAppDA ks os x (kix kk ks) | none => none) = _
  cases tkey k <;> rfl
theorem appdB_some {ks : List D} {os : List O} {x : D} {kk : NestedKey} : appdB ks os x (some kk) = evAppDA ks os x (kix kk ks) := rfl
def setaB (ks : List D) (os : List O) (k x : D) : Option NestedKey → Option O
  | some kk => if ks.length < sizeLine then evSetAppA ks os k x (kix kk ks) else none
  | none => none
theorem smSetApp_ok_dct : smSetApp.ok (.dct [] []) = true := rfl
theorem smSetApp_ok_od {ks : List D} {os : List O} : smSetApp.ok (.od ks os) = true := rfl
theorem smSetApp_ev {o : O} {es : List O} {x : Option D} : smSetApp.ev o es x = evSetApp o es x := rfl
theorem evSetApp_dct {k x : D} : evSetApp (.dct [] []) [.p k] (some x) = setaB [] [] k x (tkey k) := by
  show (match tkey k with | some kk => (if ([] : List D).length < sizeLine then evSetAppA [] [] k x (kix kk []) else none) | none => none) = _
  cases tkey k <;> rfl
theorem evSetApp_od {ks : List D} {os : List O} {k x : D} : evSetApp (.od ks os) [.p k] (some x) = setaB ks os k x (tkey k) := by
  show (match tkey k with | some kk => (if ks.length < sizeLine then evSetAppA ks os k x (kix kk ks) else none) | none => none) = _
  cases tkey k <;> rfl
theorem setaB_some {ks : List D} {os : List O} {k x : D} {kk : NestedKey} : setaB ks os k x (some kk) = if ks.length < sizeLine then evSetAppA ks os k x (kix kk ks) else none := rfl
theorem dctOf_dct {ks xs : List D} : dctOf (.dct ks xs) = some (ks, xs) := rfl
theorem dctOf_frz {ks xs : List D} : dctOf (.p (.dct ks xs)) = some (ks, xs) := rfl
theorem dctKs_dct {ks xs : List D} : dctKs (.dct ks xs) = some ks := rfl
theorem dctKs_frz {ks xs : List D} : dctKs (.p (.dct ks xs)) = some ks := rfl
theorem dctKs_od {ks : List D} {os : List O} : dctKs (.od ks os) = some ks := rfl
def mget1 (o : O) : Option (Option D) → Option (O × D)
  | some (some x) => some (o, x)
  | some none => some (o, .non)
  | none => none
def mget2 (o : O) (z : D) : Option (Option D) → Option (O × D)
  | some (some x) => some (o, x)
  | some none => some (o, z)
  | none => none
theorem muDGet1_ok {o : O} : muDGet1.ok o = (dctOf o).isSome := rfl
theorem muDGet2_ok {o : O} : muDGet2.ok o = (dctOf o).isSome := rfl
theorem muDGet1_ev {o : O} {k : D} {ks xs : List D} (h : dctOf o = some (ks, xs)) : muDGet1.ev o [.p k] = mget1 o (dGet ks xs k) := by
  show (match dctOf o with | some (ks, xs) => (match dGet ks xs k with | some (some x) => some (o, x) | some none => some (o, .non) | none => none) | none => none) = _
  rw [h]
  dsimp only
  cases dGet ks xs k with
  | none => rfl
  | some y => cases y <;> rfl
theorem muDGet2_ev {o : O} {k z : D} {ks xs : List D} (h : dctOf o = some (ks, xs)) : muDGet2.ev o [.p k, .p z] = mget2 o z (dGet ks xs k) := by
  show (match dctOf o with | some (ks, xs) => (match dGet ks xs k with | some (some x) => some (o, x) | some none => some (o, z) | none => none) | none => none) = _
  rw [h]
  dsimp only
  cases dGet ks xs k with
  | none => rfl
  | some y => cases y <;> rfl
theorem mget1_some {o : O} {x : D} : mget1 o (some (some x)) = some (o, x) := rfl
theorem mget1_none {o : O} : mget1 o (some none) = some (o, .non) := rfl
theorem mget2_some {o : O} {z x : D} : mget2 o z (some (some x)) = some (o, x) := rfl
theorem mget2_none {o : O} {z : D} : mget2 o z (some none) = some (o, z) := rfl
def sortB (ds : List D) : Bool → Option O
  | true => some (.lst (sortD ds))
  | false => none
theorem plSortD_ev : plSortD.ev = evSortD := rfl
theorem evSortD_lst {ds : List D} : evSortD [.lst ds] = sortB ds (okSort ds) := by
  show (if okSort ds = true then some (O.lst (sortD ds)) else none) = _
  cases okSort ds <;> rfl
theorem evSortD_frz {ds : List D} : evSortD [.p (.lst ds)] = sortB ds (okSort ds) := by
  show (if okSort ds = true then some (O.lst (sortD ds)) else none) = _
  cases okSort ds <;> rfl
theorem evSortD_dct {ks xs : List D} : evSortD [.dct ks xs] = sortB ks (okSort ks) := by
  show (if okSort ks = true then some (O.lst (sortD ks)) else none) = _
  cases okSort ks <;> rfl
theorem evSortD_fdct {ks xs : List D} : evSortD [.p (.dct ks xs)] = sortB ks (okSort ks) := by
  show (if okSort ks = true then some (O.lst (sortD ks)) else none) = _
  cases okSort ks <;> rfl
theorem sortB_ok {ds : List D} : sortB ds true = some (.lst (sortD ds)) := rfl
def lstkB : Option (List D) → Option O
  | some ks => some (.lst ks)
  | none => none
theorem plLstK_ev : plLstK.ev = evLstK := rfl
theorem evLstK_eq {o : O} : evLstK [o] = lstkB (dctKs o) := by
  show (match dctKs o with | some ks => some (O.lst ks) | none => none) = _
  cases dctKs o <;> rfl
theorem lstkB_some {ks : List D} : lstkB (some ks) = some (.lst ks) := rfl
def lenkB : Option (List D) → Option O
  | some ks => some (.p (.int ks.length))
  | none => none
theorem plLenK_ev : plLenK.ev = evLenK := rfl
theorem evLenK_eq {o : O} : evLenK [o] = lenkB (dctKs o) := by
  show (match dctKs o with | some ks => some (O.p (.int ks.length)) | none => none) = _
  cases dctKs o <;> rfl
theorem lenkB_some {ks : List D} : lenkB (some ks) = some (.p (.int ks.length)) := rfl
theorem itpKeys_ev {o : O} : itpKeys.ev [o] = dctKs o := rfl
def itemsB : Option (List D × List D) → Option (List D)
  | some (ks, xs) => if ks.length = xs.length then some (itemsD ks xs) else none
  | none => none
theorem itpItems_ev {o : O} : itpItems.ev [o] = itemsB (dctOf o) := by
  show (match dctOf o with | some (ks, xs) => (if ks.length = xs.length then some (itemsD ks xs) else none) | none => none) = _
  cases dctOf o with
  | none => rfl
  | some p => rfl
theorem itemsB_some {ks xs : List D} : itemsB (some (ks, xs)) = if ks.length = xs.length then some (itemsD ks xs) else none := rfl
theorem itpRev_l {ds : List D} : itpRev.ev [.lst ds] = some ds.reverse := rfl
theorem itpRev_f {ds : List D} : itpRev.ev [.p (.lst ds)] = some ds.reverse := rfl
theorem itpEnum_l {ds : List D} : itpEnum.ev [.lst ds] = some (enumD 0 ds) := rfl
theorem itpEnum_f {ds : List D} : itpEnum.ev [.p (.lst ds)] = some (enumD 0 ds) := rfl
theorem itpZip_l {a b : List D} : itpZip.ev [.lst a, .lst b] = some (zipD a b) := rfl
theorem itpZip_lf {a b : List D} : itpZip.ev [.lst a, .p (.lst b)] = some (zipD a b) := rfl
theorem itpZip_fl {a b : List D} : itpZip.ev [.p (.lst a), .lst b] = some (zipD a b) := rfl
theorem itpZip_f {a b : List D} : itpZip.ev [.p (.lst a), .p (.lst b)] = some (zipD a b) := rfl
theorem plRep_ev : plRep.ev = evRep := rfl
theorem evRep_lst {ds : List D} {k : Int} : evRep [.lst ds, .p (.int k)] = if -(2 ^ 63) ≤ k ∧ k < 2 ^ 63 ∧ ds.length * k.toNat ≤ sizeLine then some (.lst (List.replicate k.toNat ds).flatten) else none := rfl
def lensC : Option (List Int) → Option O
  | some ns => if ns.length ≤ 4000 then some (.p (.int (firsts ns).length)) else none
  | none => none
def lensB : Option (List D) → Option O
  | some ds => lensC (intsD ds)
  | none => none
theorem plLenSet_ev : plLenSet.ev = evLenSet := rfl
theorem evLenSet_eq {o : O} : evLenSet [o] = lensB o.lsts := by
  show (match o.lsts with | some ds => (match intsD ds with | some ns => if ns.length ≤ 4000 then some (O.p (.int (firsts ns).length)) else none | none => none) | none => none) = _
  cases o.lsts with
  | none => rfl
  | some ds =>
    show _ = lensC (intsD ds)
    dsimp only
    cases intsD ds <;> rfl
theorem lensB_some {ds : List D} : lensB (some ds) = lensC (intsD ds) := rfl
theorem lensC_some {ns : List Int} : lensC (some ns) = if ns.length ≤ 4000 then some (.p (.int (firsts ns).length)) else none := rfl
def ssC : Option (List (List Int)) → Option O
  | some l => if (evenI l && decide (l.length < 64)) = true then some (.lst ((sortL (ddI l)).map tupI)) else none
  | none => none
def ssB : Option (List D) → Option O
  | some ds => ssC (rowsI ds)
  | none => none
theorem plSortSet_ev : plSortSet.ev = evSortSet := rfl
theorem evSortSet_eq {o : O} : evSortSet [o] = ssB o.lsts := by
  show (match o.lsts with | some ds => (match rowsI ds with | some l => if (evenI l && decide (l.length < 64)) = true then some (O.lst ((sortL (ddI l)).map tupI)) else none | none => none) | none => none) = _
  cases o.lsts with
  | none => rfl
  | some ds =>
    show _ = ssC (rowsI ds)
    dsimp only
    cases rowsI ds <;> rfl
theorem ssB_some {ds : List D} : ssB (some ds) = ssC (rowsI ds) := rfl
theorem ssC_some {l : List (List Int)} : ssC (some l) = if (evenI l && decide (l.length < 64)) = true then some (.lst ((sortL (ddI l)).map tupI)) else none := rfl
end DV
namespace DV
open PySem PySem.Spec PyProof.Rows L2 PySem.Calls
def prsD : List D → Option (List NestedKey × List D × List D)
  | [] => some ([], [], [])
  | .tup [k, x] :: ds => match tkey k, prsD ds with
    | some kk, some (l, ks, xs) => some (kk :: l, k :: ks, x :: xs)
    | _, _ => none
  | _ :: _ => none
def evDctA : Option (List NestedKey × List D × List D) → Option O
  | some (l, ks, xs) => if l.Nodup ∧ l.length ≤ sizeLine then some (.dct ks xs) else none
  | none => none
def evDctL : List O → Option O
  | [o] => match o.lsts with
    | some ds => evDctA (prsD ds)
    | none => none
  | _ => none
def sxDctL (sc : Scope) : Expr → Option (List Expr)
  | .Call (.Name n _) [a] [] _ => if decide (n = "dict") && (glName sc "dict" && notStar a) then some [a] else none
  | _ => none
def plDctL : Plug := ⟨sxDctL, evDctL⟩
def dctB : Option (List D) → Option O
  | some ds => evDctA (prsD ds)
  | none => none
theorem plDctL_ev : plDctL.ev = evDctL := rfl
theorem evDctL_eq {o : O} : evDctL [o] = dctB o.lsts := rfl
theorem dctB_some {ds : List D} : dctB (some ds) = evDctA (prsD ds) := rfl
theorem evDctA_some {l : List NestedKey} {ks xs : List D} : evDctA (some (l, ks, xs)) = if l.Nodup ∧ l.length ≤ sizeLine then some (.dct ks xs) else none := rfl
end DV
namespace DV
open PySem PySem.Spec PyProof.Rows L2 Builtin
def mvExtA (ds : List D) : Option (List D) → Option (List D × D)
  | some es => if ds.length + es.length ≤ sizeLine then some (ds ++ es, .non) else none
  | none => none
def mvExtend (ds : List D) : List O → Option (List D × D)
  | [o] => mvExtA ds o.lsts
  | _ => none
def muExtend : MutD := ⟨"extend", isLst, lstEv mvExtend⟩
theorem muExtend_ok : muExtend.ok = isLst := rfl
theorem muExtend_ev : muExtend.ev = lstEv mvExtend := rfl
theorem mvExtend_eq {ds : List D} {o : O} : mvExtend ds [o] = mvExtA ds o.lsts := rfl
theorem mvExtA_some {ds es : List D} : mvExtA ds (some es) = if ds.length + es.length ≤ sizeLine then some (ds ++ es, .non) else none := rfl
end DV
namespace DV
open PySem PySem.Spec PyProof.Rows L2
/-- every place is the first of a run early enough; odd; not too great -/
structure Gm (m : Nat) : Prop where
  meets : ∀ (h : Int) (j : Nat), j ≤ m → ∃ n, n ≤ m + 12 ∧ runI m (SetTable.bits h) n = j
  odd : m % 2 = 1
  four : m = 7 ∨ m = 31 ∨ m = 127 ∨ m = 511
theorem Gm.le {m : Nat} (h : Gm m) : m ≤ 511 := by have := h.four; omega
theorem way_in (m : Nat) (h : Int) (k : Nat) : way m h k ≤ m := by
  have b0 : SetTable.bits h % (m + 1) < m + 1 := Nat.mod_lt _ (by omega)
  obtain ⟨r1, r2, _⟩ := runEnd_bd (m := m) (i := SetTable.bits h % (m + 1)) (by omega)
  have := nth_in (m := m) k (runAt m (SetTable.bits h % (m + 1)) (SetTable.bits h)) (by
    have : (runAt m (SetTable.bits h % (m + 1)) (SetTable.bits h)).j = SetTable.bits h % (m + 1) := rfl
    have : (runAt m (SetTable.bits h % (m + 1)) (SetTable.bits h)).more = SetTable.runEnd m (SetTable.bits h % (m + 1)) - SetTable.bits h % (m + 1) := rfl
    omega)
  show (nth m (runAt m (SetTable.bits h % (m + 1)) (SetTable.bits h)) k).j ≤ m
  omega
/-- rows found again by their hashes -/
structure Tb (t : SetTable) (hs : List Int) : Prop where
  up : Ris t.place.toList
  none_off : t.dummies = #[]
  many : t.place.size = hs.length
  gm : Gm t.mask
  low : ∀ x ∈ t.place.toList, x ≤ t.mask
  fnd : ∀ (i : Nat) (h : Int) (j : Nat), hs[i]? = some h → t.place.toList[i]? = some j → ∃ k, way t.mask h k = j ∧ ∀ k', k' < k → way t.mask h k' ∈ t.place.toList
theorem Tb.len {t : SetTable} {hs : List Int} (T : Tb t hs) : t.place.toList.length = hs.length := by rw [Array.length_toList, T.many]
theorem Tb.free {t : SetTable} {hs : List Int} (T : Tb t hs) (hl : hs.length ≤ t.mask) (h : Int) : ∃ K, K < 10 * SetTable.turns t.mask ∧ way t.mask h K ∉ t.place.toList ∧ ∀ k, k < K → way t.mask h k ∈ t.place.toList := by
  obtain ⟨j, hj, hn⟩ := st_missing t.place.toList (t.mask + 1) (by rw [T.len]; omega)
  obtain ⟨n, hn2, e⟩ := T.gm.meets h j (by omega)
  obtain ⟨k, hk, e2⟩ := run_nth t.mask (SetTable.bits h) n
  have ek : way t.mask h k = j := by
    show (nth t.mask (runAt t.mask (SetTable.bits h % (t.mask + 1)) (SetTable.bits h)) k).j = j
    rw [e2]
    exact e
  obtain ⟨K, g1, g2, g3⟩ := st_least (p := fun k => way t.mask h k ∉ t.place.toList) k (by rw [ek]; exact hn)
  refine ⟨K, by unfold SetTable.turns; omega, g2, fun k' hk' => ?_⟩
  by_cases c : way t.mask h k' ∈ t.place.toList
  · exact c
  · exact absurd c (g3 k' hk')
/-- one row more -/
theorem Tb.put {t : SetTable} {hs : List Int} (T : Tb t hs) {h : Int} {K j p : Nat} (hj : way t.mask h K = j) (hp : SetTable.below t.place j = p) (hK : j ∉ t.place.toList) (hb : ∀ k, k < K → way t.mask h k ∈ t.place.toList) : p ≤ hs.length ∧ Tb (t.put j).1 (hs.take p ++ h :: hs.drop p) ∧ (t.put j).1.fill = hs.length + 1 := by
  obtain ⟨c1, _, _⟩ := below_cut T.up j
  rw [hp] at c1
  have lh : p ≤ hs.length := by rw [← T.many]; exact c1
  have lp : p ≤ t.place.toList.length := by rw [T.len]; exact lh
  have ep := put_place t j
  rw [hp] at ep
  have inn : ∀ {x : Nat}, x ∈ (t.put j).1.place.toList ↔ x = j ∨ x ∈ t.place.toList := fun {x} => by rw [ep]; exact mem_ins
  have sz : (t.put j).1.place.size = hs.length + 1 := by rw [← Array.length_toList, ep, len_ins _ lp, T.len]
  have dm := put_dm T.none_off j
  refine ⟨lh, ⟨ris_insert T.up fun e => hK (List.mem_of_getElem? (by rw [Array.getElem?_toList]; exact e)), dm, by rw [len_ins _ lh]; exact sz, T.gm, fun x hx => ?_, fun i h' j' h1 h2 => ?_⟩, ?_⟩
  · rcases inn.mp hx with z | z
    · rw [z, ← hj]; exact way_in _ _ _
    · exact T.low x z
  · rw [tins_get hs lh] at h1
    rw [ep, tins_get _ lp] at h2
    have old : ∀ i', hs[i']? = some h' → t.place.toList[i']? = some j' → ∃ k, way t.mask h' k = j' ∧ ∀ k', k' < k → way t.mask h' k' ∈ (t.put j).1.place.toList := fun i' g1 g2 => by
      obtain ⟨k, e, z⟩ := T.fnd i' h' j' g1 g2
      exact ⟨k, e, fun k' hk' => inn.mpr (.inr (z k' hk'))⟩
    show ∃ k, way t.mask h' k = j' ∧ _
    by_cases c : i < p
    · rw [if_pos c] at h1 h2
      exact old i h1 h2
    · rw [if_neg c] at h1 h2
      by_cases d : i = p
      · rw [if_pos d] at h1 h2
        cases h1
        cases h2
        exact ⟨K, hj, fun k' hk' => inn.mpr (.inr (hb k' hk'))⟩
      · rw [if_neg d] at h1 h2
        exact old _ h1 h2
  · show (t.put j).1.place.size + (t.put j).1.dummies.size = _
    rw [sz, dm]
    rfl
end DV
namespace DV
open PySem PySem.Spec PyProof.Rows L2
abbrev hx (P : Program) (w : World) (k : List Key) : Int := tupleKeyHash (mixKind P w) k
abbrev Tx (P : Program) (w : World) (h : Heap) (k : List Key) (b : Addr) : Prop := IsTupleKey (mixKind P w) h k b
section
variable {P : Program} {w : World} {A : Around} {E : Value → Shared → Prop} {s : Shared} {a : Addr} {L : List (Addr × List Key)} {es : Array (Int × Value)} {ep : Nat} {t : SetTable}
def rowsX (P : Program) (w : World) (L : List (Addr × List Key)) : List (Int × Value) := L.map fun q => (hx P w q.2, Value.ref q.1)
structure Sx (P : Program) (w : World) (h : Heap) (a : Addr) (L : List (Addr × List Key)) (es : Array (Int × Value)) (ep : Nat) (t : SetTable) : Prop where
  ob : ∃ o, h.get? a = some o ∧ o.ExactSet ∧ o.data = .set es ep t
  rows : es.toList = rowsX P w L
  tb : Tb t (L.map fun q => hx P w q.2)
  nd : (L.map (·.2)).Nodup
  tup : ∀ q ∈ L, Tx P w h q.2 q.1
  led : w.params.followText "set-order" = true ∨ t.led = true
  room : L.length * 5 < t.mask * 3
  few : L.length ≤ 300
end
end DV
namespace DV
open PySem PySem.Spec PyProof.Rows L2
structure Gx2 (ks : List (Addr × List Key)) (i : Nat) (L : List (Addr × List Key)) : Prop where
  sub : ∀ q ∈ L, q ∈ ks.take i
  all : ∀ q ∈ ks.take i, q.2 ∈ L.map (·.2)
  len : L.length ≤ i
theorem Gx2.in_ {ks L : List (Addr × List Key)} {i : Nat} {x : Addr × List Key} (g : Gx2 ks i L) (h : ks[i]? = some x) (m : x.2 ∈ L.map (·.2)) : Gx2 ks (i + 1) L := by
  have e : ks.take (i + 1) = ks.take i ++ [x] := by rw [List.take_add_one, h]; rfl
  refine ⟨fun q hq => by rw [e]; exact List.mem_append_left _ (g.sub q hq), fun q hq => ?_, by have := g.len; omega⟩
  rw [e] at hq
  rcases List.mem_append.mp hq with z | z
  · exact g.all q z
  · rw [List.mem_singleton.mp z]; exact m
theorem Gx2.more {ks L L2 : List (Addr × List Key)} {i : Nat} {x : Addr × List Key} (g : Gx2 ks i L) (h : ks[i]? = some x) (pm : L2.Perm (x :: L)) : Gx2 ks (i + 1) L2 := by
  have e : ks.take (i + 1) = ks.take i ++ [x] := by rw [List.take_add_one, h]; rfl
  refine ⟨fun q hq => ?_, fun q hq => ?_, by have := g.len; rw [pm.length_eq, List.length_cons]; omega⟩
  · rw [e]
    rcases List.mem_cons.mp (pm.mem_iff.mp hq) with rfl | z
    · exact List.mem_append_right _ (List.mem_singleton.mpr rfl)
    · exact List.mem_append_left _ (g.sub q z)
  · rw [(pm.map (·.2)).mem_iff]
    rw [e] at hq
    rcases List.mem_append.mp hq with z | z
    · exact List.mem_cons_of_mem _ (g.all q z)
    · rw [List.mem_singleton.mp z]; exact List.mem_cons_self
section
variable {P : Program} {w : World} {A : Around} {E : Value → Shared → Prop} {s : Shared}
theorem Sx.keep {h h2 : Heap} {a : Addr} {L : List (Addr × List Key)} {es : Array (Int × Value)} {ep : Nat} {t : SetTable} (R : Sx P w h a L es ep t) (ka : ∀ o, h.get? a = some o → h2.get? a = some o) (kt : ∀ q ∈ L, Tx P w h2 q.2 q.1) : Sx P w h2 a L es ep t := by
  obtain ⟨o, g1, g2⟩ := R.ob
  exact ⟨⟨o, ka o g1, g2⟩, R.rows, R.tb, R.nd, kt, R.led, R.room, R.few⟩
end
end DV
namespace DV
open PySem PySem.Spec PyProof.Rows L2
def keyD : Key → D
  | .inl i => .int i
  | .inr x => .str x
def rowD (k : List Key) : D := .tup (k.map keyD)
def keyOfD : D → Option Key
  | .int i => some (.inl i)
  | .str x => some (.inr x)
  | _ => none
def keysOfD : List D → Option (List Key)
  | [] => some []
  | d :: ds => match keyOfD d, keysOfD ds with
    | some k, some ks => some (k :: ks)
    | _, _ => none
def rowK : D → Option (List Key)
  | .tup ds => keysOfD ds
  | _ => none
def rowsK : List D → Option (List (List Key))
  | [] => some []
  | d :: ds => match rowK d, rowsK ds with
    | some r, some rs => some (r :: rs)
    | _, _ => none
instance keyDec : DecidableEq Key := inferInstanceAs (DecidableEq (Int ⊕ Str))
def memK (x : List Key) (l : List (List Key)) : Bool := l.any fun y => decide (y = x)
def ddK : List (List Key) → List (List Key)
  | [] => []
  | x :: xs => if memK x (ddK xs) = true then ddK xs else x :: ddK xs
def evSortSetK : List O → Option O
  | [o] => match o.lsts with
    | some ds => match rowsK ds with
      | some l => if (okSort ((ddK l).map rowD) && decide (l.length ≤ 299)) = true then some (.lst (sortD ((ddK l).map rowD))) else none
      | none => none
    | none => none
  | _ => none
def plSortSetK : Plug := ⟨sxSortSet, evSortSetK⟩
def skC : Option (List (List Key)) → Option O
  | some l => if (okSort ((ddK l).map rowD) && decide (l.length ≤ 299)) = true then some (.lst (sortD ((ddK l).map rowD))) else none
  | none => none
def skB : Option (List D) → Option O
  | some ds => skC (rowsK ds)
  | none => none
theorem plSortSetK_ev : plSortSetK.ev = evSortSetK := rfl
theorem evSortSetK_eq {o : O} : evSortSetK [o] = skB o.lsts := by
  show (match o.lsts with | some ds => (match rowsK ds with | some l => if (okSort ((ddK l).map rowD) && decide (l.length ≤ 299)) = true then some (O.lst (sortD ((ddK l).map rowD))) else none | none => none) | none => none) = _
  cases o.lsts with
  | none => rfl
  | some ds =>
    show (match rowsK ds with | some l => if (okSort ((ddK l).map rowD) && decide (l.length ≤ 299)) = true then some (O.lst (sortD ((ddK l).map rowD))) else none | none => none) = skC (rowsK ds)
    cases rowsK ds <;> rfl
theorem skB_some {ds : List D} : skB (some ds) = skC (rowsK ds) := rfl
theorem skC_some {l : List (List Key)} : skC (some l) = if (okSort ((ddK l).map rowD) && decide (l.length ≤ 299)) = true then some (.lst (sortD ((ddK l).map rowD))) else none := rfl
end DV
namespace DV
open PySem PySem.Spec PyProof.Rows L2
section
variable {prog : Program} {w : World}
/-- what stays but for some places -/
def Stay (ns : List Addr) (h h' : Heap) : Prop := ∀ c o, c ∉ ns → h.get? c = some o → h'.get? c = some o
theorem Stay.add {ns ms : List Addr} {h h1 h2 : Heap} (a : Stay ns h h1) (b : Stay ms h1 h2) (sb : ∀ c, c ∈ ms → c ∈ ns) : Stay ns h h2 := fun c o n e => b c o (fun q => n (sb c q)) (a c o n e)
variable {A : Around} {E : Value → Shared → Prop} {s : Shared} {z TI TO i1 i2 : Addr} {f1 f2 : List Addr}
end
def O.tpl : O → Option (List D)
  | .p (.tup ds) => some ds
  | _ => none
def evItZipT : List O → Option (List D)
  | [a, b] => match a.lsts, b.tpl with
    | some x, some y => some (zipD x y)
    | _, _ => none
  | _ => none
def itpZipT : ItP := ⟨sxZip, evItZipT⟩
theorem itpZipT_ev {a b : O} {x y : List D} (h : a.lsts = some x) (h2 : b.tpl = some y) : itpZipT.ev [a, b] = some (zipD x y) := by
  show evItZipT [a, b] = _
  unfold evItZipT
  dsimp only
  rw [h, h2]
theorem itpZipT_l {x y : List D} : itpZipT.ev [.lst x, .p (.tup y)] = some (zipD x y) := itpZipT_ev rfl rfl
theorem itpZipT_f {x y : List D} : itpZipT.ev [.p (.lst x), .p (.tup y)] = some (zipD x y) := itpZipT_ev rfl rfl
end DV
namespace DV
open PySem PySem.Spec PyProof.Rows L2
end DV
namespace DV
open PySem PySem.Spec PyProof.Rows L2
def sxMinT (sc : Scope) : Expr → Option (List Expr)
  | .Call (.Name n _) [a] [] _ => if decide (n = "min") && (glName sc "min" && notStar a) then some [a] else none
  | _ => none
def evMinT : List O → Option O
  | [.p (.tup ds)] => match intsD ds with
    | some (a :: r) => some (.p (.int (minL a r)))
    | _ => none
  | _ => none
def plMinT : Plug := ⟨sxMinT, evMinT⟩
def minB : Option (List Int) → Option O
  | some (a :: r) => some (.p (.int (minL a r)))
  | _ => none
theorem plMinT_ev {os : List O} : plMinT.ev os = evMinT os := rfl
theorem evMinT_eq {ds : List D} : evMinT [.p (.tup ds)] = minB (intsD ds) := by
  show (match intsD ds with | some (a :: r) => some (O.p (.int (minL a r))) | _ => none) = _
  cases intsD ds with
  | none => rfl
  | some l => cases l <;> rfl
theorem minB_some {a : Int} {r : List Int} : minB (some (a :: r)) = some (.p (.int (minL a r))) := rfl
end DV
namespace DV
open PySem PySem.Spec PyProof.Rows L2
def sxLstRev (sc : Scope) : Expr → Option (List Expr)
  | .Call (.Name f _) [.Call (.Name h _) [a] [] _] [] _ => if decide (f = "list") && (decide (h = "reversed") && (glName sc f && (glName sc h && notStar a))) then some [a] else none
  | _ => none
def evLstRev : List O → Option O
  | [o] => match o.lsts with
    | some ds => some (.lst ds.reverse)
    | none => none
  | _ => none
def plLstRev : Plug := ⟨sxLstRev, evLstRev⟩
/-- x is not True -/
def sxNotB (b : Bool) (sc : Scope) : Expr → Option (List Expr)
  | .Compare a [.IsNot] [.Constant (.bool c) _ _] _ => if b = c then some [a] else none
  | _ => none
def evNotB (b : Bool) : List O → Option O
  | [.p (.bl c)] => some (.p (.bl (!decide (c = b))))
  | _ => none
def plNotB (b : Bool) : Plug := ⟨sxNotB b, evNotB b⟩
theorem plLstRev_ev : (plLstRev).ev = evLstRev := rfl
theorem plNotB_ev {b : Bool} : (plNotB b).ev = evNotB b := rfl
theorem evLstRev_l {ds : List D} : evLstRev [.lst ds] = some (.lst ds.reverse) := rfl
theorem evLstRev_f {ds : List D} : evLstRev [.p (.lst ds)] = some (.lst ds.reverse) := rfl
theorem evNotB_bl {b c : Bool} : evNotB b [.p (.bl c)] = some (.p (.bl (!decide (c = b)))) := rfl
end DV
namespace DV
open PySem PySem.Spec PyProof.Rows L2 PySem.W PySem.Calls
def sxEqNew (sc : Scope) : Expr → Option (List Expr)
  | .Compare a [.Eq] [.Dict [] [] _] _ => some [a]
  | _ => none
def evEqNew : List O → Option O
  | [o] => match dctKs o with
    | some ks => some (.p (.bl (ks.length == 0)))
    | none => none
  | _ => none
def plEqNew : Plug := ⟨sxEqNew, evEqNew⟩
theorem plEqNew_ev : (plEqNew).ev = evEqNew := rfl
theorem evEqNew_eq {o : O} : evEqNew [o] = match dctKs o with
    | some ks => some (.p (.bl (ks.length == 0)))
    | none => none := rfl
end DV
namespace DV
open PySem PySem.Spec PyProof.Rows L2
def sxClrI (sc : Scope) : Stmt → Option (Expr × List Expr × Option Expr)
  | .Expr (.Call (.Attribute (.Subscript o ix _) m ap) [] [] cp) _ => if decide (m = "clear") && ((ap.endLine == cp.line) && notSlice ix) then some (o, [ix], none) else none
  | _ => none
def isOt : O → Bool
  | .ot _ => true
  | _ => false
def evClrI : O → List O → Option D → Option O
  | .ot os, [.p (.int i)], none => match L2.ixN os.length i with
    | some k => match os[k]? with
      | some (.lst _) => some (.ot (os.set k (.lst [])))
      | _ => none
    | none => none
  | _, _, _ => none
def smClrI : SMut := ⟨sxClrI, isOt, evClrI⟩
/-- list(x[j]) -/
def sxOtL (sc : Scope) : Expr → Option (List Expr)
  | .Call (.Name f _) [.Subscript a ix _] [] _ => if decide (f = "list") && (glName sc f && notSlice ix) then some [a, ix] else none
  | _ => none
def evOtL : List O → Option O
  | [.ot os, .p (.int i)] => match L2.ixN os.length i with
    | some k => match os[k]? with
      | some (.lst ds) => some (.lst ds)
      | _ => none
    | none => none
  | _ => none
def plOtL : Plug := ⟨sxOtL, evOtL⟩
theorem smClrI_ok : smClrI.ok = isOt := rfl
theorem smClrI_ev : smClrI.ev = evClrI := rfl
theorem isOt_ot {os : List O} : isOt (.ot os) = true := rfl
theorem evClrI_1 {o : O} {ds : List D} : evClrI (.ot [o, .lst ds]) [.p (.int 1)] none = some (.ot [o, .lst []]) := rfl
theorem evClrI_2 {o o2 : O} {ds : List D} : evClrI (.ot [o, .lst ds, o2]) [.p (.int 1)] none = some (.ot [o, .lst [], o2]) := rfl
theorem plOtL_ev : (plOtL).ev = evOtL := rfl
theorem evOtL_1 {o : O} {ds : List D} : evOtL [.ot [o, .lst ds], .p (.int 1)] = some (.lst ds) := rfl
end DV
namespace DV
open PySem PySem.Spec PyProof.Rows L2
def ixB (b : Bool) : List Bool → Option Nat
  | [] => none
  | c :: l => if c = b then some 0 else (ixB b l).map (· + 1)
def mvCountB (ds : List D) : List O → Option D
  | [.p (.bl b)] => match blsD ds with
    | some bs => some (.int ((bs.countP fun c => c == b : Nat) : Int))
    | none => none
  | _ => none
def mvIndexB (ds : List D) : List O → Option D
  | [.p (.bl b)] => match blsD ds with
    | some bs => match ixB b bs with
      | some j => some (.int (j : Nat))
      | none => none
    | none => none
  | _ => none
def muCountB : MutD := ⟨"count", isLsts, rdEv mvCountB⟩
def muIndexB : MutD := ⟨"index", isLsts, rdEv mvIndexB⟩
/-- list(range(n)) -/
def sxLstRg (sc : Scope) : Expr → Option (List Expr)
  | .Call (.Name f _) [.Call (.Name h _) [a] [] _] [] _ => if decide (f = "list") && (decide (h = "range") && (glName sc f && (glName sc h && notStar a))) then some [a] else none
  | _ => none
def evLstRg : List O → Option O
  | [.p (.int n)] => if 0 ≤ n ∧ n ≤ 1000000 then some (.lst (rngD 0 n.toNat)) else none
  | _ => none
def plLstRg : Plug := ⟨sxLstRg, evLstRg⟩
theorem muCountB_ok : muCountB.ok = isLsts := rfl
theorem muCountB_ev : muCountB.ev = rdEv mvCountB := rfl
theorem muIndexB_ok : muIndexB.ok = isLsts := rfl
theorem muIndexB_ev : muIndexB.ev = rdEv mvIndexB := rfl
theorem plLstRg_ev : (plLstRg).ev = evLstRg := rfl
theorem evLstRg_i {n : Int} : evLstRg [.p (.int n)] = if 0 ≤ n ∧ n ≤ 1000000 then some (.lst (rngD 0 n.toNat)) else none := rfl
end DV
namespace DV
open PySem PySem.Spec PyProof.Rows L2
def fIx (f : Str) : List Str → Option Nat
  | [] => none
  | n :: ns => if n = f then some 0 else (fIx f ns).map (· + 1)
/-- a field laid anew -/
def putO (f : Str) (o' : O) (c : Str) (ns : List Str) (os : List O) : O := match fIx f ns with
  | some j => .ob c ns (os.set j o')
  | none => .ob c (ns ++ [f]) (os ++ [o'])
def fldP : Option O → Option O
  | some (.p d) => some (.p d)
  | _ => none
def fldAt (os : List O) : Option Nat → Option O
  | some j => fldP os[j]?
  | none => none
def evFldO (cs : List Str) (f : Str) : List O → Option O
  | [.p (.ins c ns ds)] => if c ∈ cs then (lookF f ns ds).map .p else none
  | [.ob c ns os] => if c ∈ cs then fldAt os (fIx f ns) else none
  | _ => none
def plFldO (cs : List Str) (f : Str) : Plug := ⟨sxFld f, evFldO cs f⟩
def lenL : Option O → Option O
  | some (.lst ds) => some (.p (.int ds.length))
  | _ => none
def lenAt (os : List O) : Option Nat → Option O
  | some j => lenL os[j]?
  | none => none
def evLenF (cs : List Str) (f : Str) : List O → Option O
  | [.ob c ns os] => if c ∈ cs then lenAt os (fIx f ns) else none
  | _ => none
def sxLenF (f : Str) (sc : Scope) : Expr → Option (List Expr)
  | .Call (.Name n _) [.Attribute o m _] [] _ => if decide (n = "len") && (decide (m = f) && (glName sc n && noSup o)) then some [o] else none
  | _ => none
def plLenF (cs : List Str) (f : Str) : Plug := ⟨sxLenF f, evLenF cs f⟩
def isObC (cs : List Str) : O → Bool
  | .ob c _ _ => decide (c ∈ cs)
  | _ => false
end DV
namespace DV
open PySem PySem.Spec PyProof.Rows L2
def sxFldS (f : Str) (sc : Scope) : Stmt → Option (Expr × List Expr × Option Expr)
  | .Assign [.Attribute o m _] v _ => if decide (m = f) && noSup o then some (o, [v], none) else none
  | _ => none
def fldSA (cs : List Str) (f c : Str) (ns : List Str) (os : List O) (o' : O) : Option O := if c ∈ cs ∧ ns.length < 900 then some (putO f o' c ns os) else none
def evFldS (cs : List Str) (f : Str) : O → List O → Option D → Option O
  | .ob c ns os, [.p d], none => fldSA cs f c ns os (.p d)
  | _, _, _ => none
/-- o.f = data -/
def smFld (cs : List Str) (f : Str) : SMut := ⟨sxFldS f, isObC cs, evFldS cs f⟩
/-- o.f = a thing of one's own -/
def sxFldT (f : Str) (sc : Scope) : Stmt → Option (Expr × Expr × Option Expr)
  | .Assign [.Attribute o m _] v _ => if decide (m = f) && noSup o then some (o, v, none) else none
  | _ => none
def evFldT (cs : List Str) (f : Str) : O → O → Option D → Option O
  | .ob c ns os, o, none => fldSA cs f c ns os o
  | _, _, _ => none
def soFld (cs : List Str) (f : Str) : SetOD := ⟨sxFldT f, isObC cs, evFldT cs f⟩
/-- o.f.append(x) -/
def sxApF (f : Str) (sc : Scope) : Stmt → Option (Expr × List Expr × Option Expr)
  | .Expr (.Call (.Attribute (.Attribute o m _) k ap) [x] [] cp) _ => if decide (m = f) && (noSup o && (decide (k = "append") && ((ap.endLine == cp.line) && notStar x))) then some (o, [x], none) else none
  | _ => none
def apL (c : Str) (ns : List Str) (os : List O) (j : Nat) (d : D) : Option O → Option O
  | some (.lst ds) => if ds.length < sizeLine then some (.ob c ns (os.set j (.lst (ds ++ [d])))) else none
  | _ => none
def apAt (c : Str) (ns : List Str) (os : List O) (d : D) : Option Nat → Option O
  | some j => apL c ns os j d os[j]?
  | none => none
def evApF (cs : List Str) (f : Str) : O → List O → Option D → Option O
  | .ob c ns os, [.p d], none => if c ∈ cs then apAt c ns os d (fIx f ns) else none
  | _, _, _ => none
def isL : Option O → Bool
  | some (.lst _) => true
  | _ => false
def okAt (os : List O) : Option Nat → Bool
  | some j => isL os[j]?
  | none => false
def okApF (cs : List Str) (f : Str) : O → Bool
  | .ob c ns os => decide (c ∈ cs) && okAt os (fIx f ns)
  | _ => false
def smApF (cs : List Str) (f : Str) : SMut := ⟨sxApF f, okApF cs f, evApF cs f⟩
theorem RepD.stay {g : Gl} {F H F' H' : Hp} {own : Addr → Prop} {d : D} {v : V} (s : Step F H own F' H') (r : RepD g F d v) : RepD g F' d v := r.mono s.mono
end DV
namespace DV
open PySem PySem.Spec PyProof.Rows L2
def okM (c m : Str) : O → Bool
  | .ob c' ns _ => decide (c' = c) && !(ns.contains m)
  | _ => false
def cmM (c m : Str) (n : Nat) (sem : FS) : CallM := ⟨sxMeth m n, okM c m, sem⟩
def sxMethF (f m : Str) (n : Nat) (sc : Scope) : Expr → Option (Expr × List Expr × List Expr)
  | .Call (.Attribute (.Attribute o f2 fp) m2 ap) xs [] cp => if decide (f2 = f) && (decide (m2 = m) && (noSup o && (decide (xs.length = n) && (decide (n < 30) && (xs.all notStar && (ap.endLine == cp.line)))))) then some (o, [], xs) else none
  | _ => none
def isM (c m : Str) : Option O → Bool
  | some o => okM c m o
  | none => false
def okMAt (c m : Str) (os : List O) : Option Nat → Bool
  | some j => isM c m os[j]?
  | none => false
def okMF (c f c2 m : Str) : O → Bool
  | .ob c' ns os => decide (c' = c) && okMAt c2 m os (fIx f ns)
  | _ => false
def backF (c : Str) (ns : List Str) (os : List O) (j : Nat) : Option (R O × List (Option O)) → Option (R O × List (Option O))
  | some (r, some o :: bs) => some (r, some (.ob c ns (os.set j o)) :: bs)
  | _ => none
def callF (sem : FS) (c : Str) (ns : List Str) (os : List O) (as : List O) (j : Nat) : Option O → Option (R O × List (Option O))
  | some o => backF c ns os j (sem (o :: as))
  | none => none
def callAt (sem : FS) (c : Str) (ns : List Str) (os : List O) (as : List O) : Option Nat → Option (R O × List (Option O))
  | some j => callF sem c ns os as j os[j]?
  | none => none
def semF (f : Str) (sem : FS) : FS
  | .ob c ns os :: as => callAt sem c ns os as (fIx f ns)
  | _ => none
def cmF (c f c2 m : Str) (n : Nat) (sem : FS) : CallL := ⟨sxMethF f m n, okMF c f c2 m, semF f sem⟩
end DV
namespace DV
open PySem PySem.Spec PyProof.Rows L2
/-- what C(..) does, by what its __init__ does -/
def mkOB : Option (R O × List (Option O)) → Option (R O × List (Option O))
  | some (.ok (.p .non), some o :: bs) => some (.ok o, bs)
  | some (.ex x, _ :: bs) => some (.ex x, bs)
  | _ => none
def mkOS (c : Str) (sem : FS) : FS := fun os => mkOB (sem (.ob c [] [] :: os))
def mkO (c : Str) (n : Nat) (sem : FS) : CallD := ⟨sxMk c n, mkOS c sem⟩
end DV
namespace DV
open PySem PySem.Spec PyProof.Rows L2
section
variable {f g c c2 m : Str} {cs ns : List Str} {ds : List D} {os as : List O} {o o' : O} {d : D} {n j : Nat} {sem : FS} {ρ : Ev} {i : Nat}
theorem fIx_cons : fIx f (g :: ns) = if g = f then some 0 else (fIx f ns).map (· + 1) := by rw [fIx]
theorem fIx_nil : fIx f [] = none := rfl
theorem plFldO_ev : (plFldO cs f).ev os = evFldO cs f os := rfl
theorem evFldO_ins : evFldO cs f [.p (.ins c ns ds)] = if c ∈ cs then (lookF f ns ds).map .p else none := rfl
theorem evFldO_ob : evFldO cs f [.ob c ns os] = if c ∈ cs then fldAt os (fIx f ns) else none := rfl
theorem fldAt_some : fldAt os (some j) = fldP os[j]? := rfl
theorem fldP_p : fldP (some (.p d)) = some (.p d) := rfl
theorem plLenF_ev : (plLenF cs f).ev os = evLenF cs f os := rfl
theorem evLenF_ob : evLenF cs f [.ob c ns os] = if c ∈ cs then lenAt os (fIx f ns) else none := rfl
theorem lenAt_some : lenAt os (some j) = lenL os[j]? := rfl
theorem lenL_lst : lenL (some (.lst ds)) = some (.p (.int ds.length)) := rfl
def putOB (f : Str) (o' : O) (c : Str) (ns : List Str) (os : List O) : Option Nat → O
  | some j => .ob c ns (os.set j o')
  | none => .ob c (ns ++ [f]) (os ++ [o'])
theorem putO_eq : putO f o' c ns os = putOB f o' c ns os (fIx f ns) := by
  unfold putO putOB
  cases fIx f ns <;> rfl
theorem putOB_some : putOB f o' c ns os (some j) = .ob c ns (os.set j o') := rfl
theorem putOB_none : putOB f o' c ns os none = .ob c (ns ++ [f]) (os ++ [o']) := rfl
theorem smFld_ok : (smFld cs f).ok = isObC cs := rfl
theorem isObC_ob : isObC cs (.ob c ns os) = decide (c ∈ cs) := rfl
theorem smFld_ev : (smFld cs f).ev = evFldS cs f := rfl
theorem evFldS_ob : evFldS cs f (.ob c ns os) [.p d] none = fldSA cs f c ns os (.p d) := rfl
theorem fldSA_eq : fldSA cs f c ns os o = if c ∈ cs ∧ ns.length < 900 then some (putO f o c ns os) else none := rfl
theorem soFld_ok : (soFld cs f).ok = isObC cs := rfl
theorem soFld_ev : (soFld cs f).ev = evFldT cs f := rfl
theorem evFldT_ob : evFldT cs f (.ob c ns os) o none = fldSA cs f c ns os o := rfl
theorem smApF_ok : (smApF cs f).ok = okApF cs f := rfl
theorem okApF_ob : okApF cs f (.ob c ns os) = (decide (c ∈ cs) && okAt os (fIx f ns)) := rfl
theorem okAt_some : okAt os (some j) = isL os[j]? := rfl
theorem isL_lst : isL (some (.lst ds)) = true := rfl
theorem smApF_ev : (smApF cs f).ev = evApF cs f := rfl
theorem evApF_ob : evApF cs f (.ob c ns os) [.p d] none = if c ∈ cs then apAt c ns os d (fIx f ns) else none := rfl
theorem apAt_some : apAt c ns os d (some j) = apL c ns os j d os[j]? := rfl
theorem apL_lst : apL c ns os j d (some (.lst ds)) = if ds.length < sizeLine then some (.ob c ns (os.set j (.lst (ds ++ [d])))) else none := rfl
theorem cmM_ok : (cmM c m n sem).ok (.ob c2 ns os) = (decide (c2 = c) && !(ns.contains m)) := rfl
theorem cmM_sem : (cmM c m n sem).sem = sem := rfl
theorem cmF_ok : (cmF c f c2 m n sem).ok (.ob g ns os) = (decide (g = c) && okMAt c2 m os (fIx f ns)) := rfl
theorem okMAt_some : okMAt c m os (some j) = isM c m os[j]? := rfl
theorem isM_ob : isM c m (some (.ob c2 ns os)) = (decide (c2 = c) && !(ns.contains m)) := rfl
theorem cmF_sem : (cmF c f c2 m n sem).sem = semF f sem := rfl
theorem semF_ob : semF f sem (.ob c ns os :: as) = callAt sem c ns os as (fIx f ns) := rfl
theorem callAt_some : callAt sem c ns os as (some j) = callF sem c ns os as j os[j]? := rfl
theorem callF_some : callF sem c ns os as j (some o) = backF c ns os j (sem (o :: as)) := rfl
theorem backF_some {r : R O} {bs : List (Option O)} : backF c ns os j (some (r, some o :: bs)) = some (r, some (.ob c ns (os.set j o)) :: bs) := rfl
theorem mkO_sem : (mkO c n sem).sem os = mkOB (sem (.ob c [] [] :: os)) := rfl
theorem mkOB_ok {bs : List (Option O)} : mkOB (some (.ok (.p .non), some o :: bs)) = some (.ok o, bs) := rfl
theorem mkOB_ex {x : Ex} {w : Option O} {bs : List (Option O)} : mkOB (some (.ex x, w :: bs)) = some (.ex x, bs) := rfl
theorem setoA_some {p : SetOD} {r : Option (Fl × Ev)} : setoA p r (some (some o)) = if p.ok o = true then r else none := rfl
theorem setoB_ok {p : SetOD} {q : Option Nat} : setoB p i q (some (.ok o, ρ)) = setoC p i o ρ ρ[i]? (nmD ρ q) := rfl
theorem setoB_ex {p : SetOD} {q : Option Nat} {x : Ex} : setoB p i q (some (.ex x, ρ)) = some (.ex x, ρ) := rfl
theorem setoC_some {p : SetOD} {dn : Option D} : setoC p i o ρ (some (some o')) (some dn) = smutD i ρ (p.ev o' o dn) := rfl
theorem smutLA_some {p : SMut} {h : Ev → Res (List Opd)} : smutLA p i h ρ (some (some o)) = smutLC p i o h ρ (p.ok o) := rfl
theorem smutLC_true {p : SMut} {h : Ev → Res (List Opd)} : smutLC p i o h ρ true = smutLD p i o (h (ρ.set i none)) := rfl
theorem smutLD_ok {p : SMut} {qs : List Opd} : smutLD p i o (some (.ok qs, ρ)) = smutC p i ρ (some (some o)) (vws ρ qs) (some none) := rfl
theorem callLA_some {p : CallL} {h : Ev → Res (List Opd)} : callLA p i h ρ (some (some o)) = callLC p i o h ρ (p.ok o) := rfl
theorem callLC_true {p : CallL} {h : Ev → Res (List Opd)} : callLC p i o h ρ true = callB p.sem [] (consS i (unlQ i o (h (ρ.set i none)))) := rfl
theorem unlQ_ok {qs : List Opd} : unlQ i o (some (.ok qs, ρ)) = some (.ok qs, ρ.set i (some o)) := rfl
theorem unlQ_ex {x : Ex} : unlQ i o (some (.ex x, ρ)) = some (.ex x, ρ.set i (some o)) := rfl
theorem bindQ_ok {h : Ev → Res (List Opd)} {qs : List Opd} : bindQ h (some (.ok qs, ρ)) = appQ qs (h ρ) := rfl
theorem bindQ_ex {h : Ev → Res (List Opd)} {x : Ex} : bindQ h (some (.ex x, ρ)) = some (.ex x, ρ) := rfl
theorem appQ_ok {qs ps : List Opd} : appQ qs (some (.ok ps, ρ)) = some (.ok (qs ++ ps), ρ) := rfl
theorem appQ_ex {qs : List Opd} {x : Ex} : appQ qs (some (.ex x, ρ)) = some (.ex x, ρ) := rfl
theorem owA_some {p : OwnD} {r : Res O} : owA p r (some (some o)) = if p.ok o = true then r else none := rfl
theorem owB_ok {p : OwnD} {qs : List Opd} : owB p i (some (.ok qs, ρ)) = owC p i ρ ρ[i]? (vws ρ qs) := rfl
theorem owB_ex {p : OwnD} {x : Ex} : owB p i (some (.ex x, ρ)) = some (.ex x, ρ) := rfl
theorem owC_some {p : OwnD} : owC p i ρ (some (some o)) (some os) = owD i ρ (p.ev o os) := rfl
theorem owD_some : owD i ρ (some o) = some (.ok o, ρ.set i none) := rfl
end
end DV
namespace DV
open PySem PySem.Spec PyProof.Rows L2
def sxDOneL (sc : Scope) : Expr → Option (List Expr)
  | .Dict [some k] [.List [] _] _ => some [k]
  | _ => none
def oneLB (k : D) : Option NestedKey → Option O
  | some _ => some (.od [k] [.lst []])
  | none => none
def evDOneL : List O → Option O
  | [.p k] => oneLB k (tkey k)
  | _ => none
def plDOneL : Plug := ⟨sxDOneL, evDOneL⟩
def sxDAdd (sc : Scope) : Expr → Option (List Expr)
  | .BinOp (.Subscript d k _) .Add (.List [x] _) _ => if notSlice k && notStar x then some [d, k, x] else none
  | _ => none
def addL (x : D) : Option O → Option O
  | some (.lst ds) => if ds.length + 1 ≤ sizeLine then some (.lst (ds ++ [x])) else none
  | _ => none
def addAt (os : List O) (x : D) : Option Nat → Option O
  | some i => addL x os[i]?
  | none => none
def addK (ks : List D) (os : List O) (x : D) : Option NestedKey → Option O
  | some kk => addAt os x (kix kk ks)
  | none => none
def addO (k x : D) : Option (List D × List O) → Option O
  | some (ks, os) => addK ks os x (tkey k)
  | none => none
def evDAdd : List O → Option O
  | [o, .p k, .p x] => addO k x (odOf o)
  | _ => none
def plDAdd : Plug := ⟨sxDAdd, evDAdd⟩
def sxDSet (sc : Scope) : Stmt → Option (Expr × Expr × Option Expr)
  | .Assign [.Subscript o (.Name n np) _] v _ => some (o, v, some (.Name n np))
  | _ => none
def setNew (ks : List D) (os : List O) (k : D) (ou : O) : Option Nat → Option O
  | none => if ks.length < sizeLine then some (.od (ks ++ [k]) (os ++ [ou])) else none
  | some _ => none
def setK (ks : List D) (os : List O) (k : D) (ou : O) : Option NestedKey → Option O
  | some kk => setNew ks os k ou (kix kk ks)
  | none => none
def setOd (k : D) (ou : O) : Option (List D × List O) → Option O
  | some (ks, os) => setK ks os k ou (tkey k)
  | none => none
def evDSet : O → O → Option D → Option O
  | o, ou, some k => setOd k ou (odOf o)
  | _, _, none => none
def soDSet : SetOD := ⟨sxDSet, isOd, evDSet⟩
def sxDTake (sc : Scope) : Expr → Option (Expr × List Expr)
  | .Subscript o ix _ => if notSlice ix then some (o, [ix]) else none
  | _ => none
def takeAt (os : List O) : Option Nat → Option O
  | some i => os[i]?
  | none => none
def takeK (ks : List D) (os : List O) : Option NestedKey → Option O
  | some kk => takeAt os (kix kk ks)
  | none => none
def takeO (k : D) : Option (List D × List O) → Option O
  | some (ks, os) => takeK ks os (tkey k)
  | none => none
def evDTake (o : O) : List O → Option O
  | [.p k] => takeO k (odOf o)
  | _ => none
def owDTake : OwnD := ⟨sxDTake, isOd, evDTake⟩
end DV
namespace DV
open PySem PySem.Spec PyProof.Rows L2
def sxSplit (sep : Str) (sc : Scope) : Expr → Option (List Expr)
  | .Call (.Attribute o m ap) [.Constant (.str t) k p] [] cp => if decide (m = "split") && (decide (t = sep) && (noSup o && (ap.endLine == cp.line))) then some [o] else none
  | _ => none
def splitD (a sep : Str) : List D := (Txt.split a sep).map D.str
def evSplit (sep : Str) : List O → Option O
  | [.p (.str a)] => if a.length + 2 ≤ sizeLine ∧ (sep.length == 0) = false then some (.lst (splitD a sep)) else none
  | _ => none
def plSplit (sep : Str) : Plug := ⟨sxSplit sep, evSplit sep⟩
def sxInt1 (sc : Scope) : Expr → Option (List Expr)
  | .Call (.Name f _) [a] [] _ => if decide (f = "int") && (glName sc f && notStar a) then some [a] else none
  | _ => none
def intO (a : Str) : Option Int → Option O
  | some n => if a.length ≤ 640 then some (.p (.int n)) else none
  | none => none
def evIntS : List O → Option O
  | [.p (.str a)] => intO a (PySem.intText? a)
  | _ => none
def plIntS : Plug := ⟨sxInt1, evIntS⟩
def chrs (z : Str) : List D := z.cps.toList.map fun c => .str ⟨#[c]⟩
def evItStr : List O → Option (List D)
  | [.p (.str z)] => some (chrs z)
  | _ => none
def itpStr : ItP := ⟨fun _ _ it => some [it], evItStr⟩
def sxIndexL (sc : Scope) : Expr → Option (Expr × List Expr)
  | .Call (.Attribute (.List xs lp) m ap) [x] [] cp => if decide (m = "index") && ((ap.endLine == cp.line) && notStar x) then some (.List xs lp, [x]) else none
  | _ => none
def okIx : D → Bool
  | .lst _ => true
  | _ => false
def ixR (ds : List D) (z : Str) : Option Nat → Option (R O × List (Option O))
  | some j => some (.ok (.p (.int (j : Nat))), [some (.p (.lst ds)), some (.p (.str z))])
  | none => none
def ixRs (ds : List D) (z : Str) : Option (List Str) → Option (R O × List (Option O))
  | some ys => ixR ds z (idxS z ys)
  | none => none
def semIx : FS
  | [.p (.lst ds), .p (.str z)] => ixRs ds z (strsD ds)
  | _ => none
def ixC : CallH := ⟨sxIndexL, okIx, fun _ => semIx⟩
section
variable {sep a z : Str} {os : List O} {ds : List D} {ys : List Str} {n : Int} {j : Nat}
theorem plSplit_ev : (plSplit sep).ev os = evSplit sep os := rfl
theorem evSplit_s : evSplit sep [.p (.str a)] = if a.length + 2 ≤ sizeLine ∧ (sep.length == 0) = false then some (.lst (splitD a sep)) else none := rfl
theorem plIntS_ev : (plIntS).ev os = evIntS os := rfl
theorem evIntS_s : evIntS [.p (.str a)] = intO a (PySem.intText? a) := rfl
theorem intO_some : intO a (some n) = if a.length ≤ 640 then some (.p (.int n)) else none := rfl
theorem itpStr_ev : (itpStr).ev os = evItStr os := rfl
theorem evItStr_s : evItStr [.p (.str z)] = some (chrs z) := rfl
theorem ixC_ok : ixC.ok (.lst ds) = true := rfl
theorem ixC_sem {d : D} : ixC.sem d = semIx := rfl
theorem semIx_eq : semIx [.p (.lst ds), .p (.str z)] = ixRs ds z (strsD ds) := rfl
theorem ixRs_some : ixRs ds z (some ys) = ixR ds z (idxS z ys) := rfl
theorem ixR_some : ixR ds z (some j) = some (.ok (.p (.int (j : Nat))), [some (.p (.lst ds)), some (.p (.str z))]) := rfl
theorem plDOneL_ev : (plDOneL).ev os = evDOneL os := rfl
theorem plDAdd_ev : (plDAdd).ev os = evDAdd os := rfl
theorem soDSet_ok : soDSet.ok = isOd := rfl
theorem soDSet_ev : soDSet.ev = evDSet := rfl
theorem owDTake_ok : owDTake.ok = isOd := rfl
theorem owDTake_ev : owDTake.ev = evDTake := rfl
end
end DV
namespace DV
open PySem PySem.Spec PyProof.Rows L2
def sxAppL (sc : Scope) : Stmt → Option (Expr × Expr × Option Expr)
  | .Expr (.Call (.Attribute o m ap) [v] [] cp) _ => if decide (m = "append") && ((ap.endLine == cp.line) && notStar v) then some (o, v, none) else none
  | _ => none
def isOlO : O → Bool
  | .ol _ => true
  | _ => false
def appOlO (os : List O) (ou : O) : Option O := if os.length < sizeLine then some (.ol (os ++ [ou])) else none
def evAppL : O → O → Option D → Option O
  | .ol os, ou, none => appOlO os ou
  | _, _, _ => none
def soAppL : SetOD := ⟨sxAppL, isOlO, evAppL⟩
section
variable {os : List O} {ou : O}
theorem soAppL_ok : soAppL.ok = isOlO := rfl
theorem soAppL_ev : soAppL.ev = evAppL := rfl
theorem isOlO_ol : isOlO (.ol os) = true := rfl
theorem evAppL_ol : evAppL (.ol os) ou none = appOlO os ou := rfl
theorem appOlO_eq : appOlO os ou = if os.length < sizeLine then some (.ol (os ++ [ou])) else none := rfl
end
def sxSetC (n : Int) : Stmt → Option (Expr × Expr × Option Expr)
  | .Assign [.Subscript o (.Constant (.int m) _ _) _] v _ => if m = n then some (o, v, none) else none
  | _ => none
def sxSetN : Stmt → Option (Expr × Expr × Option Expr)
  | .Assign [.Subscript o (.Name x p) _] v _ => some (o, v, some (.Name x p))
  | _ => none
def isLstO : O → Bool
  | .lst _ => true
  | _ => false
def setIAt (ds : List D) (ou : O) : Option Nat → Option O
  | some i => some (.ol ((ds.map O.p).set i ou))
  | none => none
def setIO (n : Int) (ou : O) : O → Option O
  | .lst ds => setIAt ds ou (L2.ixN ds.length n)
  | _ => none
def evSetC (n : Int) (o ou : O) : Option D → Option O
  | none => setIO n ou o
  | _ => none
def evSetN (o ou : O) : Option D → Option O
  | some (.int n) => setIO n ou o
  | _ => none
def soSetC (n : Int) : SetOD := ⟨fun _ => sxSetC n, isLstO, evSetC n⟩
def soSetN : SetOD := ⟨fun _ => sxSetN, isLstO, evSetN⟩
section
variable {ds : List D} {o ou : O} {n : Int}
theorem soSetC_ok : (soSetC n).ok = isLstO := rfl
theorem soSetC_ev : (soSetC n).ev = evSetC n := rfl
theorem soSetN_ok : soSetN.ok = isLstO := rfl
theorem soSetN_ev : soSetN.ev = evSetN := rfl
theorem isLstO_lst : isLstO (.lst ds) = true := rfl
theorem evSetC_eq : evSetC n o ou none = setIO n ou o := rfl
theorem evSetN_eq : evSetN o ou (some (.int n)) = setIO n ou o := rfl
theorem setIO_lst : setIO n ou (.lst ds) = setIAt ds ou (L2.ixN ds.length n) := rfl
theorem setIAt_some {i : Nat} : setIAt ds ou (some i) = some (.ol ((ds.map O.p).set i ou)) := rfl
end
end DV
namespace DV
open PySem PySem.Spec PyProof.Rows L2
def setOAt (os : List O) (ou : O) : Option Nat → Option O
  | some i => some (.ol (os.set i ou))
  | none => none
def setOO (n : Int) (ou : O) : O → Option O
  | .ol os => setOAt os ou (L2.ixN os.length n)
  | _ => none
def evSetO (n : Int) (o ou : O) : Option D → Option O
  | none => setOO n ou o
  | _ => none
def soSetO (n : Int) : SetOD := ⟨fun _ => sxSetC n, isOlO, evSetO n⟩
def litKV : List (Option Expr) → List Expr → Option (List (Str × Str))
  | [], [] => some []
  | some (.Constant (.str k) _ _) :: ks, .Constant (.str v) _ _ :: vs => match litKV ks vs with
    | some r => some ((k, v) :: r)
    | none => none
  | _, _ => none
def sxDLit (kvs : List (Str × Str)) (sc : Scope) : Expr → Option (List Expr)
  | .Subscript (.Dict ks vs _) (.Name n p) _ => if litKV ks vs = some kvs ∧ kvs ≠ [] ∧ kvs.length ≤ 15 then some [.Name n p] else none
  | _ => none
def litV (kvs : List (Str × Str)) : List (Key × V) := kvs.map fun kv => (Sum.inr kv.1, V.str kv.2)
def litAt (kvs : List (Str × Str)) (z : Str) : Option V := valV (mergeK [] (litV kvs)) (Sum.inr z)
def strO : Option V → Option O
  | some (.str v) => some (.p (.str v))
  | _ => none
def evDLit (kvs : List (Str × Str)) : List O → Option O
  | [.p (.str z)] => strO (litAt kvs z)
  | _ => none
def plDLit (kvs : List (Str × Str)) : Plug := ⟨sxDLit kvs, evDLit kvs⟩
section
variable {os : List O} {o ou : O} {n : Int} {kvs : List (Str × Str)}
theorem soSetO_ok : (soSetO n).ok = isOlO := rfl
theorem soSetO_ev : (soSetO n).ev = evSetO n := rfl
theorem evSetO_eq : evSetO n o ou none = setOO n ou o := rfl
theorem setOO_ol : setOO n ou (.ol os) = setOAt os ou (L2.ixN os.length n) := rfl
theorem setOAt_some {i : Nat} : setOAt os ou (some i) = some (.ol (os.set i ou)) := rfl
theorem plDLit_ev : (plDLit kvs).ev = evDLit kvs := rfl
theorem evDLit_s {z : Str} : evDLit kvs [.p (.str z)] = strO (litAt kvs z) := rfl
theorem strO_s {z : Str} : strO (some (.str z)) = some (.p (.str z)) := rfl
end
end DV
namespace DV
open PySem PySem.Spec PyProof.Rows L2
def reprOk (d : D) : Bool := decide (d.dep < 100) && (d.py.showable && (!d.py.hasDict && (decide (d.py.depth ≤ 100) && decide (d.py.shown.length ≤ sizeLine))))
def isTupD : D → Bool
  | .tup _ => true
  | _ => false
def evRepr : List O → Option O
  | [.p d] => if (isTupD d && reprOk d) = true then some (.p (.str d.py.shown)) else none
  | _ => none
def plRepr : Plug := ⟨sxCallT "repr", evRepr⟩
section
variable {X : Cx}
theorem call_repr (hG : X.A.guards = some []) (hu : X.A.units + 150 < cLine) : CallR X (.builtin "repr") (fun xs H Q => ∃ (a : Addr) (d : PyData), xs = [.ref a] ∧ Dp X.K H (.ref a) d ∧ d.showable = true ∧ d.hasDict = false ∧ d.depth ≤ 100 ∧ d.shown.length ≤ sizeLine ∧ Q (.str d.shown) H) := by
  intro pins s σ H xs us Q I r h
  obtain ⟨a, d, rfl, hd, h1, h2, h3, h4, q⟩ := h
  obtain ⟨u, rfl, ru⟩ := vals1 r
  obtain rfl : u = Value.ref a := ru
  obtain ⟨as, rd⟩ := Dp.reads I d (.ref a) (.ref a) hd rfl
  exact repr_of_reads' rd h1 (fun z => by rw [h2] at z; cases z) hG (by omega) (fun _ _ e => e) (fun h' u tk k => ⟨.str d.shown, H, I.kept k, ⟨_, rfl⟩, q⟩) h4
end
theorem ok_repr {g : Gx} (hG : g.A.guards = some []) : PlugOk g plRepr := by
  refine ⟨fun {X} hg B {x xs σ H Q} hs w => ?_⟩
  have hGX : X.A.guards = some [] := by
    have : (gx X).A.guards = some [] := by rw [hg]; exact hG
    exact this
  obtain ⟨np, cp, a, rfl, h1, h2, rfl⟩ := sxCallT_some hs
  refine wpe_of (pe_callB (call_repr hGX (by have := B.un; omega)) (gl_of h1) (B.bi _ (by decide +kernel)) (by decide +kernel) (pa_wp1 h2) (by decide +kernel) (by decide +kernel) (starEach_cons h2) (by rfl)) (WPE.mono w fun v H1 z => ?_)
  obtain ⟨F, os, o, sb, rv, ev, pp⟩ := z
  obtain ⟨o1, as, rfl, r1⟩ := rv.one
  replace ev : evRepr [o1] = some o := ev
  unfold evRepr at ev
  split at ev
  · rename_i d heq
    simp only [List.cons.injEq, and_true] at heq
    subst heq
    split at ev
    · rename_i hc
      cases ev
      simp only [reprOk, Bool.and_eq_true, decide_eq_true_eq, Bool.not_eq_true'] at hc
      obtain ⟨c0, c1, c2, c3, c4, c5⟩ := hc
      have rd := repO_p r1
      cases d with
      | tup ds =>
        obtain ⟨b, vs, rfl, _, _⟩ := repD_tup rd
        exact ⟨b, _, rfl, dp_of (rd.mono sb) c1, c2, c3, c4, c5, pp.sc sb repD_str⟩
      | _ => cases c0
    · cases ev
  · cases ev
/-- what the law's own def promises its caller, who stands within no other call -/
structure FnG (P : Program) (w : World) (K : PySem.W.Frag) (mg : Str → Option Value) (base : Heap) (k : Nat) (f : Addr) (fd : FuncData) (ps : List Str) (sp : Sp) : Prop where
  go : ∀ (s : Shared) (H : Hp) (us : List Value) (vs : List V) (Q : VK) (E : XK), Room k callerA → Env0 P w K mg base callerA [] s H → BindsTo s fd ⟨us, []⟩ (ps.zip us) → Vals vs us → sp vs H Q E →
    codeAny (model P w) callerA (.call (.ref f) ⟨us, []⟩) (CR (CX P w) [] P w H s Q E) s
theorem fn_soundG {P : Program} {w : World} {K : PySem.W.Frag} {mg : Str → Option Value} {base : Heap} {x qual : Str} {params : Arguments} {body : List Stmt} {scope : Scope} {dvs : List V} {kws : List (Str × V)} {f : Addr} {fd : FuncData}
    {N ps : List Str} {k : Nat} (F : FunD K x qual params body scope dvs kws f fd) (S : FnScope N ps scope) (ir : List DV.S) (sem : FS) (chk : chkSs N ir scope body = true)
    (calls : ∀ A : Around, Room k A → A.guards = some [] → CallsSs ⟨P, w, K, mg, base, A, true⟩ ir) (bi : ∀ n ∈ biNames, mg n = none) (hsem : ∀ os r, sem os = some r → ∃ fuel, semOf N.length ps.length ir fuel os = some r) :
    FnG P w K mg base (k + 1) f fd ps (spOf ⟨K, mg, w⟩ ps.length sem) := by
  obtain ⟨oc, od, dV, kV, doc, pm, an, cdv, ct, osl, rfl, lk, hcd, _, _⟩ := F.ex
  refine ⟨fun s H us vs Q E hr e0 hb rv h => ?_⟩
  obtain ⟨hl, F0, os, fp, r, bs, S0, hs, q⟩ := h
  have inK : K.In s.heap := fun b o e => (e0.bs b o (e0.mod.kin b o e)).1
  have noLim : s.heap.NoLimit := e0.mod.nolimit.keeps fun b o e => (e0.bs b o e).1
  have kinds : ((ps.zip us).all fun y => scope.names.lookup y.1 == some .local || scope.names.lookup y.1 == some .cell) = true := List.all_eq_true.mpr fun y hy => by
    rcases S.par y.1 (List.of_mem_zip (show (y.1, y.2) ∈ ps.zip us from hy)).1 with z | z
    · rw [z]; rfl
    · rw [z]; rfl
  refine Att.call_fn inK noLim lk hcd hr.depth hb kinds (fun s1 x1 => ?_) S.co S.gen S.kind
  have I := inv_start (CX := CX P w) (E := E) S hr.hd e0 hl rv x1
  have hr' := hr.deeper (envOfC qual scope s.heap.objs.size f cdv)
  have B : SXOK (cxOf (CX P w) P w K mg base N qual scope f cdv callerA [] s H E) := ⟨⟨S.nd, by have := (hr'.mono (Nat.zero_le k)).un; rw [Nat.mul_zero, Nat.add_zero] at this; exact this, bi⟩, passes_of rfl, (fun x h => by
    refine ⟨?_, .inl rfl⟩
    unfold locB at h
    split at h
    · exact .inl ‹_›
    · exact .inr ‹_›
    · exact absurd h (by decide)), S.kind, rfl, rfl, rfl⟩
  have T : Takes (cxOf (CX P w) P w K mg base N qual scope f cdv callerA [] s H E) (fun C d _ H' => E C d H') := takes_of rfl rfl rfl rfl
  have key : WPSs (cxOf (CX P w) P w K mg base N qual scope f cdv callerA [] s H E) body { nx := fun _ H' => Q .non H', rt := Q } (L2.start N vs) H := by
    obtain ⟨fuel, hf⟩ := hsem _ _ hs
    unfold semOf at hf
    split at hf
    · rename_i ho
      have snd := soundSs fuel ir B T (calls _ hr' rfl) chk
      have S1 := sok_start N ps.length S0 hl
      have own' : ∀ {fp' : Nat → List Addr} {b : Addr}, Own (fun i => if i < ps.length ∧ i ∉ asSs ir then fp' i else []) b → Own fp' b := fun {fp' b} ⟨i, hi⟩ => by
        dsimp only at hi
        split at hi
        · exact ⟨i, hi⟩
        · cases hi
      split at hf
      · rename_i ρ e
        cases hf
        refine snd _ _ F0 H fp .nx ρ _ S1 e fun σ' F' H' fp' a => ?_
        exact q .non F' H' _ [] a.s (sok_fin a hl) (fun b hb => a.n b (own' hb)) (by unfold RepO RepD; exact ⟨rfl, rfl⟩) List.nodup_nil (by simp)
      · rename_i o ρ e
        cases hf
        refine snd _ _ F0 H fp (.rt o) ρ _ S1 e fun v σ' F' H' fp' fr a rv nd nf => ?_
        exact q v F' H' _ fr a.s (sok_fin a hl) (fun b hb => a.n b (own' hb)) rv nd fun b hb => ⟨(nf b hb).1, fun z => (nf b hb).2 (own' z)⟩
      · rename_i z ρ e
        cases hf
        refine snd _ _ F0 H fp (.ex z) ρ _ S1 e fun C d σ' F' H' fp' a rx => ?_
        exact q C d F' H' _ a.s (sok_fin a hl) (fun b hb => a.n b (own' hb)) rx
      · cases hf
    · cases hf
  have pw : PSs (cxOf (CX P w) P w K mg base N qual scope f cdv callerA [] s H E) body (WPSs (cxOf (CX P w) P w K mg base N qual scope f cdv callerA [] s H E) body) := pss_wp
  have done := pw.run [] s1 (L2.start N vs) H _ I key
  refine wpAny_mono done (fun fl s' hfl => ?_) fun _ _ z => z
  cases fl with
  | next =>
    obtain ⟨_, H', J, qn⟩ := hfl
    exact ⟨.non, H', J.os, J.bare, J.base, J.hok, rfl, qn⟩
  | ret u =>
    obtain ⟨v, _, H', J, ru, qr⟩ := hfl
    exact ⟨v, H', J.os, J.bare, J.base, J.hok, ru, qr⟩
  | brk =>
    obtain ⟨_, _, _, z⟩ := hfl
    exact z.elim
  | cont =>
    obtain ⟨_, _, _, z⟩ := hfl
    exact z.elim
/-- from the heap behind the top to the law's end -/
theorem end_G {P : Program} {w : World} {K : PySem.W.Frag} {mg mb : Str → Option Value} {k : Nat} {fa a : Addr} {fd : FuncData} {y : Str} {sem : FS} {s₁ : Shared} {vs : List Value} {ns : List Int} {bs : List (Option O)}
    (KX : K.In s₁.heap) (hns : s₁.heap.Ns mainGlobals mg) (hb : s₁.heap.Ns builtinsNs mb) (hbb : ∀ x : Str, x ≠ "__name__" → mb x = bootBuiltins x) (hlim : s₁.heap.NoLimit) (hg : s₁.gens = #[])
    (ha : s₁.heap.get? a = some { cls := .type "list", data := .seq vs.toArray }) (hi : IntsAre vs ns) (hl : ns.length ≤ sizeLine) (hr : Room k callerA)
    (FG : ∀ base : Heap, FnG P w K mg base k fa fd [y] (spOf ⟨K, mg, w⟩ 1 sem)) (hbind : ∀ (s : Shared) (u : Value), BindsTo s fd ⟨[u], []⟩ [(y, u)])
    (hs : sem [.p (.lst (ns.map .int))] = some (.ok (.p (.bl true)), bs)) :
    codeAny (model P w) callerA (.call (.ref fa) ⟨[.ref a], []⟩) (fun r s' => r = .ok (.ret (.bool true)) ∧ OldK s₁.heap s'.heap ∧ s'.os = s₁.os ∧ AllBare s'.gens) s₁ := by
  have rv : Vals (ns.map V.int) vs := vals_ints hi
  -- the script alone is told, and only where the module does not hold it
  obtain ⟨H, out, S⟩ : ∃ H : Hp, (∀ b u, H b = some u → b = a ∧ K.lookup a = none ∧ u = .frz { cls := .type "list", data := .seq vs.toArray } (.lst (ns.map V.int))) ∧ SqL K H a (ns.map V.int) := by
    cases hk : K.lookup a with
    | none =>
      refine ⟨fun b => if b = a then some (.frz { cls := .type "list", data := .seq vs.toArray } (.lst (ns.map V.int))) else none, fun b u e => ?_, .inl (.inr ⟨_, if_pos rfl⟩)⟩
      dsimp only at e
      by_cases hba : b = a
      · rw [if_pos hba] at e
        exact ⟨hba, rfl, (Option.some.inj e).symm⟩
      · rw [if_neg hba] at e
        cases e
    | some o =>
      refine ⟨fun _ => none, fun b u e => (nomatch (show (none : Option HO) = some u from e)), .inr ?_⟩
      have eo := KX a o hk
      rw [ha] at eo
      cases eo
      refine ⟨_, vs.toArray, _, hk, rfl, rfl, rfl, ?_, by simpa using rv⟩
      rw [List.size_toArray, hi.length]
      exact hl
  have ok : HOk P w H s₁.heap := fun b u e => by
    obtain ⟨rfl, _, rfl⟩ := out b u e
    refine ⟨ha, ?_, vs, _, rv, ha⟩
    rw [List.length_map]
    exact hl
  have dictOut : ∀ {b : Addr} {o : Obj} {es : Array DictEntry} {ep : Nat}, s₁.heap.get? b = some o → o.data = .dict es ep → H b = none := fun {b o es ep} e1 e2 => by
    cases hb : H b with
    | none => rfl
    | some u =>
      obtain ⟨rfl, _, _⟩ := out b u hb
      rw [ha] at e1
      cases e1
      cases (show Data.seq vs.toArray _ = Data.dict es ep from e2)
  have ns' : ∀ {b : Addr} {m : Str → Option Value}, s₁.heap.Ns b m → (hidT s₁.heap H).Ns b m := fun {b m} z => by
    obtain ⟨o, es, ep, e1, e2, e3⟩ := z
    exact ⟨o, es, ep, hidT_get e1 (dictOut e1 e2), e2, e3⟩
  have kin : K.In (hidT s₁.heap H) := fun b o e => hidT_get (KX b o e) (by
    cases hb : H b with
    | none => rfl
    | some u =>
      obtain ⟨rfl, hn, _⟩ := out b u hb
      rw [hn] at e
      cases e)
  have M : Mod K mg (hidT s₁.heap H) := ⟨kin, ns' hns, ⟨mb, ns' hb, hbb⟩, by
    obtain ⟨mc, l1, l2⟩ := hlim
    exact ⟨mc, ns' l1, l2⟩⟩
  have e0 : Env0 P w K mg (hidT s₁.heap H) callerA [] s₁ H := ⟨rfl, M, fun b o e => of_hidT e, Nat.le_of_eq (hidT_size _ _), trivial, fun b z => (by cases (show b ∈ ([] : List Addr) from z)), ok, .of_eq hg⟩
  refine codeAny_mono ((FG _).go s₁ H [.ref a] [.ref a] _ _ hr e0 (hbind s₁ (.ref a)) (.cons rfl .nil) (law_end S hs)) fun r s' z => ?_
  cases r with
  | error e => exact (noCX H s₁ e s' z).elim
  | ok fl =>
    cases fl with
    | ret u =>
      obtain ⟨v, H', eo, bare, un, ok', ru, rfl⟩ := z
      obtain rfl : u = Value.bool true := ru
      refine ⟨rfl, OldK.of_keep fun b o e => ?_, eo, bare⟩
      cases hb : H b with
      | none => exact un.keep b o e hb (fun z => by cases (show b ∈ ([] : List Addr) from z)) (by simp)
      | some u =>
        obtain ⟨rfl, _, rfl⟩ := out b u hb
        have e1 := (ok' b _ (un.frzs b _ _ hb)).1
        rw [ha] at e
        rw [← e]
        exact e1
    | next => exact z.elim
    | brk => exact z.elim
    | cont => exact z.elim
/-- a law's end, where its def may ask for repr -/
theorem walk_G {l : PySem.W.OpenLaw} {n k : Nat} {q : Program} {loose : List Str} {XP : (Str → Option Value) → Heap → Prop} {YP : World → Heap → Prop} {d : DefRec} {x : Str} {sem : FS}
    (hn : l.most = some n) (hn2 : n ≤ sizeLine) (hdf : d.params.defaults = []) (hr : Room k callerA)
    (F : ∀ (w : World) (mg : Str → Option Value) (fa : Addr) (h : Heap), YP w h → h.Ns mainGlobals mg → mg d.name = some (.ref fa) →
      ∃ (K : PySem.W.Frag) (fd : FuncData), K.In h ∧ (∀ (s : Shared) (u : Value), BindsTo s fd ⟨[u], []⟩ [(x, u)]) ∧
        ∀ base : Heap, FnG l.prog w K mg base k fa fd [x] (spOf ⟨K, mg, w⟩ 1 sem))
    (hsem : ∀ ns : List Int, ns.length ≤ n → (∀ z ∈ ns, Builtin.Int.intBits z ≤ 1048576) → ∃ bs, sem [.p (.lst (ns.map .int))] = some (.ok (.p (.bl true)), bs)) :
    PySem.W.WalkO q loose XP YP l.row.toRowW d [] (fun f vs => PySem.call f vs) := by
  refine Att.attach_callB hn hdf fun w s₀ s₁ mg mb fa o pm cd doc a vs ns G Y ho hd hcd hmg hobj hints hlen hbits hg => ?_
  obtain ⟨K, fd, KX, hb, hF⟩ := F w mg fa _ Y G.T.g hmg
  obtain ⟨bs, hs⟩ := hsem ns hlen hbits
  exact end_G KX G.T.g G.T.b G.T.builtins G.T.nolimit hg hobj hints (Nat.le_trans hlen hn2) hr hF hb hs
section
variable {d : D} {os : List O}
theorem plRepr_ev : plRepr.ev = evRepr := rfl
theorem evRepr_d : evRepr [.p d] = if (isTupD d && reprOk d) = true then some (.p (.str d.py.shown)) else none := rfl
end
end DV
namespace DV
theorem rows_named : True := by
  have _ := @DV.appinVB.eq_1
  have _ := @DV.appinVC.eq_1
  have _ := @DV.appinVD.eq_1
  have _ := @DV.evRxB.eq_1
  have _ := @DV.evRxB.eq_2
  have _ := @DV.callMA.eq_1
  have _ := @DV.consS.eq_1
  have _ := @DV.consS.eq_2
  have _ := @DV.smutA.eq_1
  have _ := @DV.smutB.eq_1
  have _ := @DV.smutB.eq_2
  have _ := @DV.smutC.eq_1
  have _ := @DV.smutD.eq_1
  have _ := @DV.nmD.eq_1
  have _ := @DV.nmD.eq_2
  have _ := @DV.rspB.eq_1
  have _ := @DV.rspB.eq_2
  have _ := @DV.rspC.eq_1
  have _ := @DV.rspD.eq_1
  have _ := @DV.hsB.eq_1
  have _ := @DV.hsB.eq_2
  have _ := @DV.hsC.eq_1
  have _ := @DV.suiteI.eq_1
  have _ := @DV.suiteI.eq_2
  have _ := @DV.plugB.eq_1
  have _ := @DV.plugB.eq_2
  have _ := @DV.isCB.eq_1
  have _ := @DV.mkB.eq_1
  have _ := @DV.callHB.eq_1
  have _ := @DV.callHB.eq_2
  have _ := @DV.callHC.eq_1
  have _ := @DV.consQ.eq_1
  have _ := @DV.consQ.eq_2
  have _ := @DV.callV.eq_1
  have _ := @DV.callV.eq_2
  have _ := @DV.callW.eq_1
  have _ := @DV.mutA.eq_1
  have _ := @DV.mutB.eq_1
  have _ := @DV.mutB.eq_2
  have _ := @DV.mutC.eq_1
  have _ := @DV.mutD.eq_1
  have _ := @DV.fStC.eq_1
  have _ := @DV.lcSa.eq_1
  have _ := @DV.lcSb.eq_1
  have _ := @DV.lcSc.eq_1
  have _ := @DV.idxC.eq_1
  have _ := @DV.setinA.eq_1
  have _ := @DV.setinA.eq_2
  have _ := @DV.setinB.eq_1
  have _ := @DV.setinC.eq_1
  have _ := @DV.setinD.eq_1
  have _ := @DV.setinK.eq_1
  have _ := @DV.setinL.eq_1
  have _ := @DV.appinB.eq_1
  have _ := @DV.appinC.eq_1
  have _ := @DV.appinD.eq_1
  have _ := @DV.appinO.eq_1
  have _ := @DV.lenIC.eq_1
  have _ := @DV.lenIB.eq_1
  have _ := @DV.cmp2D.eq_1
  have _ := @DV.cmp2B.eq_1
  have _ := @DV.cmp2C.eq_1
  have _ := @DV.iteB.eq_3
  have _ := @DV.andB.eq_3
  have _ := @DV.orB.eq_3
  have _ := @DV.seqB.eq_1
  have _ := @DV.seqB.eq_2
  have _ := @DV.seqB.eq_3
  have _ := @DV.seqB.eq_4
  have _ := @DV.seqB.eq_5
  have _ := @DV.seqB.eq_6
  have _ := @DV.endFor.eq_1
  have _ := @DV.endFor.eq_2
  have _ := @DV.forD.eq_1
  have _ := @DV.forD.eq_2
  have _ := @DV.forC.eq_1
  have _ := @DV.forC.eq_2
  have _ := @DV.forB.eq_1
  have _ := @DV.forB.eq_2
  have _ := @DV.forB.eq_3
  have _ := @DV.setiB.eq_1
  have _ := @DV.setiB.eq_2
  have _ := @DV.setiC.eq_1
  have _ := @DV.appB.eq_1
  have _ := @DV.fzB.eq_1
  have _ := @DV.varB.eq_1
  have _ := @DV.mvB.eq_1
  have _ := @DV.okD.eq_1
  have _ := @DV.okD.eq_2
  have _ := @DV.primC.eq_1
  have _ := @DV.primC.eq_2
  have _ := @DV.primB.eq_1
  have _ := @DV.primB.eq_2
  have _ := @DV.primB.eq_3
  have _ := @DV.blD.eq_1
  have _ := @DV.blD.eq_2
  have _ := @DV.isiC.eq_1
  have _ := @DV.isiB.eq_1
  have _ := @DV.isiB.eq_2
  have _ := @DV.isiB.eq_3
  have _ := @DV.tupD.eq_1
  have _ := @DV.tupD.eq_2
  have _ := @DV.tupB.eq_1
  have _ := @DV.tupB.eq_2
  have _ := @DV.tupB.eq_3
  have _ := @DV.lstD.eq_1
  have _ := @DV.lstD.eq_2
  have _ := @DV.lstB.eq_1
  have _ := @DV.lstB.eq_2
  have _ := @DV.lstB.eq_3
  have _ := @DV.otB.eq_1
  have _ := @DV.otB.eq_2
  have _ := @DV.otB.eq_3
  have _ := @DV.olB.eq_1
  have _ := @DV.olB.eq_2
  have _ := @DV.olB.eq_3
  have _ := @DV.frzB.eq_1
  have _ := @DV.frzB.eq_2
  have _ := @DV.frzB.eq_3
  have _ := @DV.notB.eq_1
  have _ := @DV.notB.eq_2
  have _ := @DV.callD.eq_1
  have _ := @DV.callD.eq_2
  have _ := @DV.callD.eq_3
  have _ := @DV.callC.eq_1
  have _ := @DV.callC.eq_2
  have _ := @DV.callB.eq_1
  have _ := @DV.callB.eq_2
  have _ := @DV.callB.eq_3
  have _ := @DV.lcE.eq_1
  have _ := @DV.lcE.eq_2
  have _ := @DV.lcD.eq_1
  have _ := @DV.lcD.eq_2
  have _ := @DV.lcC.eq_1
  have _ := @DV.lcC.eq_2
  have _ := @DV.lcB.eq_1
  have _ := @DV.lcB.eq_2
  have _ := @DV.esC.eq_1
  have _ := @DV.esC.eq_2
  have _ := @DV.esC.eq_3
  have _ := @DV.esB.eq_1
  have _ := @DV.esB.eq_2
  have _ := @DV.esB.eq_3
  have _ := @DV.osC.eq_1
  have _ := @DV.osC.eq_2
  have _ := @DV.osC.eq_3
  have _ := @DV.osV.eq_1
  have _ := @DV.osB.eq_1
  have _ := @DV.osB.eq_2
  have _ := @DV.osB.eq_3
  have _ := @DV.stO.eq_1
  have _ := @DV.stO.eq_2
  have _ := @DV.stO.eq_3
  have _ := @DV.retO.eq_1
  have _ := @DV.retO.eq_2
  have _ := @DV.retO.eq_3
  have _ := @DV.dropO.eq_1
  have _ := @DV.dropO.eq_2
  have _ := @DV.dropO.eq_3
  have _ := @DV.tupT.eq_1
  have _ := @DV.tupT.eq_2
  have _ := @DV.tupO.eq_1
  have _ := @DV.tupO.eq_2
  have _ := @DV.appO.eq_1
  have _ := @DV.appO.eq_2
  have _ := @DV.setO.eq_1
  have _ := @DV.setO.eq_2
  trivial
end DV
namespace IR
open PySem PySem.Spec PyProof.Rows L2 DV
def b1_plan_depth (sem : FS) : List DV.S :=
   [.asg 1 (.prim .max2 [(.var 1), (.prim .add [(.int 1), (.call "plan_depth" [] sem [(.var 2)])])]),
    .kill [2]]
def ir_plan_depth (sem : FS) : List DV.S :=
   [.asg 1 (.int 0),
    .for_ (.one 2) .seq [(.prim (.sl true false) [(.var 0), (.int 1)])] (b1_plan_depth sem),
    .kill [2],
    .ret (.mv 1)]
def lv_plan_depth : Nat → FS
  | 0 => fun _ => none
  | n + 1 => semOf 3 1 (ir_plan_depth (lv_plan_depth n)) 4000
def sem_plan_depth : FS := lv_plan_depth 30
def b1_many : List DV.S :=
   [.asg 1 (.prim .add [(.prim .add [(.int 1), (.prim .mul [(.prim .len [(.glob "ALONE" (.tup [(.str "walk"), (.str "drop"), (.str "spare")]))]), (.var 1)])]), (.prim .mul [(.prim .mul [(.prim .len [(.glob "GATED" (.tup [(.str "lock"), (.str "door"), (.str "bar")]))]), (.var 1)]), (.var 1)])]),
    .kill [2]]
def ir_many : List DV.S :=
   [.asg 1 (.int 1),
    .for_ (.one 2) .rng1 [(.var 0)] b1_many,
    .kill [2],
    .ret (.mv 1)]
def sem_many : FS := semOf 3 1 ir_many 4000
def ir__law_cell_at : List DV.S :=
   [.ife (.prim .lt [(.var 1), (.prim .len [(.var 0)])])
      [.ret (.prim .idx [(.var 0), (.var 1)])]
      [],
    .ret (.int 0)]
def sem__law_cell_at : FS := semOf 2 2 ir__law_cell_at 4000
def ir__law_next_v3 : List DV.S :=
   [.seti 1 (.int 0) (.prim .add [(.prim .idx [(.var 1), (.int 0)]), (.int 1)]),
    .ret (.prim .fdiv [(.call "_law_cell_at" [] sem__law_cell_at [(.var 0), (.prim .mod [(.prim .idx [(.var 1), (.int 0)]), (.int 63)])]), (.prim .add [(.int 1), (.prim .fdiv [(.prim .idx [(.var 1), (.int 0)]), (.int 63)])])])]
def sem__law_next_v3 : FS := semOf 2 2 ir__law_next_v3 4000
def ir__law_plan (sem : FS) : List DV.S :=
   [.asg 3 (.call "_law_next" [] sem__law_next_v3 [(.var 0), (.var 1)]),
    .asg 4 (.prim .mod [(.var 3), (.int 9)]),
    .ife (.or_ [(.prim .eq [(.var 2), (.int 0)]), (.prim .eq [(.var 4), (.int 0)]), (.prim .lt [(.prim .idx [(.var 1), (.int 1)]), (.int 1)])])
      [.ret (.tup [(.str "end")])]
      [],
    .seti 1 (.int 1) (.prim .sub [(.prim .idx [(.var 1), (.int 1)]), (.int 1)]),
    .ife (.prim .lt [(.var 4), (.int 5)])
      [.ret (.tup [(.prim .idx [(.lst [(.str "walk"), (.str "drop"), (.str "spare"), (.str "walk")]), (.prim .sub [(.var 4), (.int 1)])]), (.call "_law_plan" [] sem [(.var 0), (.var 1), (.prim .sub [(.var 2), (.int 1)])])])]
      [],
    .asg 5 (.prim .idx [(.lst [(.str "lock"), (.str "door"), (.str "bar"), (.str "lock")]), (.prim .sub [(.var 4), (.int 5)])]),
    .asg 6 (.call "_law_plan" [] sem [(.var 0), (.var 1), (.prim .sub [(.var 2), (.int 1)])]),
    .ret (.tup [(.var 5), (.var 6), (.call "_law_plan" [] sem [(.var 0), (.var 1), (.prim .sub [(.var 2), (.int 1)])])])]
def lv__law_plan : Nat → FS
  | 0 => fun _ => none
  | n + 1 => semOf 7 3 (ir__law_plan (lv__law_plan n)) 4000
def sem__law_plan : FS := lv__law_plan 30
def e1__law_deep (sem : FS) : DV.E :=
   (.call "_law_deep" [] sem [(.var 1)])
def ir__law_deep (sem : FS) : List DV.S :=
   [.ife (.prim .eq [(.prim .idx [(.var 0), (.int 0)]), (.str "end")])
      [.ret (.int 0)]
      [],
    .ret (.prim .add [(.int 1), (.prim .max1 [(.lc (.one 1) .seq [(.prim (.sl true false) [(.var 0), (.int 1)])] [] (e1__law_deep sem))])])]
def lv__law_deep : Nat → FS
  | 0 => fun _ => none
  | n + 1 => semOf 2 1 (ir__law_deep (lv__law_deep n)) 4000
def sem__law_deep : FS := lv__law_deep 30
def ir__law_is : List DV.S :=
   [.ret (.and_ [(.isi "int" [(.var 0)]), (.not_ (.isi "bool" [(.var 0)])), (.prim .eq [(.var 0), (.var 1)])])]
def sem__law_is : FS := semOf 2 2 ir__law_is 4000
def b1_law_v60 : List DV.S :=
   [.ife (.not_ (.call "_law_is" [] sem__law_is [(.call "many" [] sem_many [(.var 4)]), (.var 3)]))
      [.ret (.bl false)]
      [],
    .asg 3 (.prim .add [(.prim .add [(.int 1), (.prim .mul [(.int 3), (.var 3)])]), (.prim .mul [(.prim .mul [(.int 3), (.var 3)]), (.var 3)])]),
    .kill [4]]
def b2_law_v60 : List DV.S :=
   [.ife (.not_ (.call "_law_is" [] sem__law_is [(.call "plan_depth" [] sem_plan_depth [(.var 5)]), (.call "_law_deep" [] sem__law_deep [(.var 5)])]))
      [.ret (.bl false)]
      [],
    .kill [5]]
def ir_law_v60 : List DV.S :=
   [.asg 1 (.callV "_law_plan" sem__law_plan [(.var 0), (.lst [(.int 0), (.int 28)]), (.prim .idx [(.lst [(.int 18), (.int 6), (.int 3), (.int 2)]), (.prim .mod [(.prim .fdiv [(.call "_law_cell_at" [] sem__law_cell_at [(.var 0), (.int 0)]), (.int 7)]), (.int 4)])])]),
    .asg 2 (.plug plRepr [(.var 1)]),
    .asg 3 (.int 1),
    .for_ (.one 4) .rng1 [(.prim .add [(.int 1), (.prim .mod [(.call "_law_cell_at" [] sem__law_cell_at [(.var 0), (.int 0)]), (.int 7)])])] b1_law_v60,
    .kill [3, 4],
    .for_ (.one 5) .seq [(.prim .add [(.lst [(.var 1)]), (.prim .lst1 [(.prim (.sl true false) [(.var 1), (.int 1)])])])] b2_law_v60,
    .kill [5],
    .ret (.prim .eq [(.plug plRepr [(.var 1)]), (.var 2)])]
def sem_law_v60 : FS := semOf 6 1 ir_law_v60 4000
def ir__law_cell : List DV.S :=
   [.ife (.prim .lt [(.var 1), (.prim .len [(.var 0)])])
      [.ret (.prim .mod [(.prim .add [(.prim .mul [(.prim .idx [(.var 0), (.var 1)]), (.int 48271)]), (.prim .mul [(.prim .mul [(.var 1), (.var 1)]), (.int 69621)])]), (.int 2147483647)])]
      [],
    .ret (.prim .mod [(.prim .add [(.prim .add [(.prim .mul [(.prim .mul [(.var 1), (.var 1)]), (.int 69621)]), (.prim .mul [(.prim .len [(.var 0)]), (.int 7919)])]), (.int 5)]), (.int 2147483647)])]
def sem__law_cell : FS := semOf 2 2 ir__law_cell 4000
end IR
namespace K61
open PySem PySem.Spec PyProof.Rows L2 DV IR
section
variable {P : Program} {w : World} {K : PySem.W.Frag} {h : Heap} {mg : Str → Option Value} {base : Heap}
abbrev FD (K : PySem.W.Frag) (d : He.DefD) (fd : FuncData) : Prop := FunD K d.name d.qual d.params d.body d.scope (d.dvs K) (d.kws K) (He.fAd K d.at_) fd
structure Env (K : PySem.W.Frag) (mg : Str → Option Value) : Prop where
  bi : ∀ x ∈ biNames, mg x = none
  t_ALONE : mg "ALONE" = some (.ref (He.ga K "ALONE")) ∧ (He.tupB K "ALONE" [.str "walk", .str "drop", .str "spare"] && bareT K "ALONE") = true
  t_GATED : mg "GATED" = some (.ref (He.ga K "GATED")) ∧ (He.tupB K "GATED" [.str "lock", .str "door", .str "bar"] && bareT K "GATED") = true
  g_plan_depth : mg "plan_depth" = some (.ref (He.ga K "plan_depth"))
  d_plan_depth : ∃ fd, FD K dd_plan_depth fd
  g_many : mg "many" = some (.ref (He.ga K "many"))
  d_many : ∃ fd, FD K dd_many fd
  g__law_cell_at : mg "_law_cell_at" = some (.ref (He.ga K "_law_cell_at"))
  d__law_cell_at : ∃ fd, FD K dd__law_cell_at fd
  g__law_next : mg "_law_next" = some (.ref (He.ga K "_law_next"))
  d__law_next : ∃ fd, FD K dd__law_next fd
  g__law_plan : mg "_law_plan" = some (.ref (He.ga K "_law_plan"))
  d__law_plan : ∃ fd, FD K dd__law_plan fd
  g__law_deep : mg "_law_deep" = some (.ref (He.ga K "_law_deep"))
  d__law_deep : ∃ fd, FD K dd__law_deep fd
  g__law_is : mg "_law_is" = some (.ref (He.ga K "_law_is"))
  d__law_is : ∃ fd, FD K dd__law_is fd
  g_law : mg "law" = some (.ref (He.ga K "law"))
  d_law : ∃ fd, FD K dd_law fd
theorem env_of (X : K.In h) (G : h.Ns mainGlobals mg) (c : SaysX tl xf fa fn K) : Env K mg := by
  have c2 := c.says
  refine ⟨?_, ?_, ?_, ?_, ?_, ?_, ?_, ?_, ?_, ?_, ?_, ?_, ?_, ?_, ?_, ?_, ?_, ?_, ?_⟩
  · intro x hx
    simp only [biNames, List.mem_cons, List.not_mem_nil, or_false] at hx
    rcases hx with rfl | rfl | rfl | rfl | rfl | rfl | rfl | rfl | rfl | rfl | rfl | rfl | rfl | rfl | rfl | rfl | rfl | rfl | rfl | rfl | rfl
    · exact He.free_ok X G (c2.fact 8 (f := .free "len") rfl)
    · exact He.free_ok X G (c2.fact 9 (f := .free "max") rfl)
    · exact He.free_ok X G (c2.fact 10 (f := .free "min") rfl)
    · exact He.free_ok X G (c2.fact 11 (f := .free "sum") rfl)
    · exact He.free_ok X G (c2.fact 12 (f := .free "int") rfl)
    · exact He.free_ok X G (c2.fact 13 (f := .free "list") rfl)
    · exact He.free_ok X G (c2.fact 14 (f := .free "tuple") rfl)
    · exact He.free_ok X G (c2.fact 15 (f := .free "sorted") rfl)
    · exact He.free_ok X G (c2.fact 16 (f := .free "repr") rfl)
    · exact He.free_ok X G (c2.fact 17 (f := .free "str") rfl)
    · exact He.free_ok X G (c2.fact 18 (f := .free "any") rfl)
    · exact He.free_ok X G (c2.fact 19 (f := .free "all") rfl)
    · exact He.free_ok X G (c2.fact 20 (f := .free "divmod") rfl)
    · exact He.free_ok X G (c2.fact 21 (f := .free "range") rfl)
    · exact He.free_ok X G (c2.fact 22 (f := .free "zip") rfl)
    · exact He.free_ok X G (c2.fact 23 (f := .free "enumerate") rfl)
    · exact He.free_ok X G (c2.fact 24 (f := .free "reversed") rfl)
    · exact He.free_ok X G (c2.fact 25 (f := .free "isinstance") rfl)
    · exact He.free_ok X G (c2.fact 26 (f := .free "set") rfl)
    · exact He.free_ok X G (c2.fact 27 (f := .free "bool") rfl)
    · exact He.free_ok X G (c2.fact 28 (f := .free "dict") rfl)
  · exact ⟨He.glo_ok X G (c.tab 0 rfl).1, (c.tab 0 rfl).2⟩
  · exact ⟨He.glo_ok X G (c.tab 1 rfl).1, (c.tab 1 rfl).2⟩
  · exact He.glo_ok X G (c2.fact 0 (f := .glo "plan_depth") rfl)
  · exact c2.def_ 0 (d := dd_plan_depth) rfl
  · exact He.glo_ok X G (c2.fact 1 (f := .glo "many") rfl)
  · exact c2.def_ 1 (d := dd_many) rfl
  · exact He.glo_ok X G (c2.fact 2 (f := .glo "_law_cell_at") rfl)
  · exact c2.def_ 2 (d := dd__law_cell_at) rfl
  · exact He.glo_ok X G (c2.fact 3 (f := .glo "_law_next") rfl)
  · exact c2.def_ 3 (d := dd__law_next) rfl
  · exact He.glo_ok X G (c2.fact 4 (f := .glo "_law_plan") rfl)
  · exact c2.def_ 4 (d := dd__law_plan) rfl
  · exact He.glo_ok X G (c2.fact 5 (f := .glo "_law_deep") rfl)
  · exact c2.def_ 5 (d := dd__law_deep) rfl
  · exact He.glo_ok X G (c2.fact 6 (f := .glo "_law_is") rfl)
  · exact c2.def_ 6 (d := dd__law_is) rfl
  · exact He.glo_ok X G (c2.fact 7 (f := .glo "law") rfl)
  · exact c2.def_ 7 (d := dd_law) rfl
def nm_plan_depth : List Str := ["plan", "deepest", "part"]
def ps_plan_depth : List Str := ["plan"]
theorem sc_plan_depth : FnScope nm_plan_depth ps_plan_depth dd_plan_depth.scope := C8.fnScope_by (by decide +kernel)
theorem ck_plan_depth (sem : FS) : chkSs nm_plan_depth (ir_plan_depth sem) dd_plan_depth.scope dd_plan_depth.body = true := by kernel_rfl
theorem bd_plan_depth {fd : FuncData} (F : FD K dd_plan_depth fd) : Binds K fd ps_plan_depth [] := FunD.bindsN F fun _ _ _ _ _ _ us hl => match us, hl with | [_], _ => rfl
theorem ok_plan_depth (E : Env K mg) {fd : FuncData} (F : FD K dd_plan_depth fd) : FnOk P w K mg base (CX P w) 31 (He.ga K "plan_depth") fd ps_plan_depth (spOf ⟨K, mg, w⟩ 1 sem_plan_depth) := by
  have key : ∀ n : Nat, FnOk P w K mg base (CX P w) (1 + n) (He.ga K "plan_depth") fd ps_plan_depth (spOf ⟨K, mg, w⟩ 1 (lv_plan_depth n)) := by
    intro n
    induction n with
    | zero =>
      exact fn_none
    | succ n ih =>
      refine fn_sound F sc_plan_depth (ir_plan_depth (lv_plan_depth n)) (lv_plan_depth (n + 1)) (ck_plan_depth _) (fun A hr => ?_) E.bi (fun os r h => ⟨4000, h⟩)

      have c_self : CallOk ⟨P, w, K, mg, base, A, true⟩ "plan_depth" [] (lv_plan_depth n) 1 := callOk_of ih F.kp (bd_plan_depth F) E.g_plan_depth rfl hr (by decide)
      simp only [ir_plan_depth, b1_plan_depth, ItKOk, CallsSs, CallsS, CallsHs, CallsE, CallsEs, Gx.hot, List.length, and_true, true_and, implies_true, ncalm, Bool.false_eq_true, false_implies, eq_self, c_self]
  exact key 30
def nm_many : List Str := ["depth", "found", "k"]
def ps_many : List Str := ["depth"]
theorem sc_many : FnScope nm_many ps_many dd_many.scope := C8.fnScope_by (by decide +kernel)
theorem ck_many : chkSs nm_many ir_many dd_many.scope dd_many.body = true := by decide +kernel
theorem bd_many {fd : FuncData} (F : FD K dd_many fd) : Binds K fd ps_many [] := FunD.bindsN F fun _ _ _ _ _ _ us hl => match us, hl with | [_], _ => rfl
theorem ok_many (E : Env K mg) {fd : FuncData} (F : FD K dd_many fd) : FnOk P w K mg base (CX P w) 1 (He.ga K "many") fd ps_many (spOf ⟨K, mg, w⟩ 1 sem_many) := by
  refine fn_sound F sc_many ir_many sem_many ck_many (fun A hr => ?_) E.bi (fun os r h => ⟨4000, h⟩)
  have k_ALONE : ∀ (A : Around) (cl : Bool), GlobOk ⟨P, w, K, mg, base, A, cl⟩ "ALONE" (.tup [(.str "walk"), (.str "drop"), (.str "spare")]) := fun A cl => globOk_tup (g := ⟨P, w, K, mg, base, A, cl⟩) E.t_ALONE.1 (He.ba E.t_ALONE.2).1 rfl (by decide)
  have k_GATED : ∀ (A : Around) (cl : Bool), GlobOk ⟨P, w, K, mg, base, A, cl⟩ "GATED" (.tup [(.str "lock"), (.str "door"), (.str "bar")]) := fun A cl => globOk_tup (g := ⟨P, w, K, mg, base, A, cl⟩) E.t_GATED.1 (He.ba E.t_GATED.2).1 rfl (by decide)
  simp only [ir_many, b1_many, ItKOk, CallsSs, CallsS, CallsHs, CallsE, CallsEs, Gx.hot, List.length, and_true, true_and, implies_true, ncalm, Bool.false_eq_true, false_implies, eq_self, k_ALONE, k_GATED]
def nm__law_cell_at : List Str := ["_law_script", "_law_k"]
def ps__law_cell_at : List Str := ["_law_script", "_law_k"]
theorem sc__law_cell_at : FnScope nm__law_cell_at ps__law_cell_at dd__law_cell_at.scope := C8.fnScope_by (by decide +kernel)
theorem ck__law_cell_at : chkSs nm__law_cell_at ir__law_cell_at dd__law_cell_at.scope dd__law_cell_at.body = true := by decide +kernel
theorem bd__law_cell_at {fd : FuncData} (F : FD K dd__law_cell_at fd) : Binds K fd ps__law_cell_at [] := FunD.bindsN F fun _ _ _ _ _ _ us hl => match us, hl with | [_, _], _ => rfl
theorem ok__law_cell_at (E : Env K mg) {fd : FuncData} (F : FD K dd__law_cell_at fd) : FnOk P w K mg base (CX P w) 1 (He.ga K "_law_cell_at") fd ps__law_cell_at (spOf ⟨K, mg, w⟩ 2 sem__law_cell_at) := by
  refine fn_sound F sc__law_cell_at ir__law_cell_at sem__law_cell_at ck__law_cell_at (fun A hr => ?_) E.bi (fun os r h => ⟨4000, h⟩)

  simp only [ir__law_cell_at, ItKOk, CallsSs, CallsS, CallsHs, CallsE, CallsEs, Gx.hot, List.length, and_true, true_and, implies_true, ncalm, Bool.false_eq_true, false_implies, eq_self]
def nm__law_next : List Str := ["_law_script", "_law_state"]
def ps__law_next : List Str := ["_law_script", "_law_state"]
theorem sc__law_next : FnScope nm__law_next ps__law_next dd__law_next.scope := C8.fnScope_by (by decide +kernel)
theorem ck__law_next : chkSs nm__law_next ir__law_next_v3 dd__law_next.scope dd__law_next.body = true := by decide +kernel
theorem bd__law_next {fd : FuncData} (F : FD K dd__law_next fd) : Binds K fd ps__law_next [] := FunD.bindsN F fun _ _ _ _ _ _ us hl => match us, hl with | [_, _], _ => rfl
theorem ok__law_next (E : Env K mg) {fd : FuncData} (F : FD K dd__law_next fd) : FnOk P w K mg base (CX P w) 2 (He.ga K "_law_next") fd ps__law_next (spOf ⟨K, mg, w⟩ 2 sem__law_next_v3) := by
  obtain ⟨fd__law_cell_at, F__law_cell_at⟩ := E.d__law_cell_at
  have hf__law_cell_at := ok__law_cell_at (P := P) (w := w) (base := base) E F__law_cell_at
  refine fn_sound F sc__law_next ir__law_next_v3 sem__law_next_v3 ck__law_next (fun A hr => ?_) E.bi (fun os r h => ⟨4000, h⟩)
  have c__law_cell_at : CallOk ⟨P, w, K, mg, base, A, true⟩ "_law_cell_at" [] sem__law_cell_at 2 := callOk_of hf__law_cell_at F__law_cell_at.kp (bd__law_cell_at F__law_cell_at) E.g__law_cell_at rfl (hr.mono (by decide)) (by decide)
  simp only [ir__law_next_v3, ItKOk, CallsSs, CallsS, CallsHs, CallsE, CallsEs, Gx.hot, List.length, and_true, true_and, implies_true, ncalm, Bool.false_eq_true, false_implies, eq_self, c__law_cell_at]
def nm__law_plan : List Str := ["_law_script", "_law_state", "_law_room", "_law_cell", "_law_way", "_law_first_part", "_law_inner"]
def ps__law_plan : List Str := ["_law_script", "_law_state", "_law_room"]
theorem sc__law_plan : FnScope nm__law_plan ps__law_plan dd__law_plan.scope := C8.fnScope_by (by decide +kernel)
theorem ck__law_plan (sem : FS) : chkSs nm__law_plan (ir__law_plan sem) dd__law_plan.scope dd__law_plan.body = true := by kernel_rfl
theorem bd__law_plan {fd : FuncData} (F : FD K dd__law_plan fd) : Binds K fd ps__law_plan [] := FunD.bindsN F fun _ _ _ _ _ _ us hl => match us, hl with | [_, _, _], _ => rfl
theorem ok__law_plan (E : Env K mg) {fd : FuncData} (F : FD K dd__law_plan fd) : FnOk P w K mg base (CX P w) 33 (He.ga K "_law_plan") fd ps__law_plan (spOf ⟨K, mg, w⟩ 3 sem__law_plan) := by
  obtain ⟨fd__law_next, F__law_next⟩ := E.d__law_next
  have hf__law_next := ok__law_next (P := P) (w := w) (base := base) E F__law_next
  have key : ∀ n : Nat, FnOk P w K mg base (CX P w) (3 + n) (He.ga K "_law_plan") fd ps__law_plan (spOf ⟨K, mg, w⟩ 3 (lv__law_plan n)) := by
    intro n
    induction n with
    | zero =>
      exact fn_none
    | succ n ih =>
      refine fn_sound F sc__law_plan (ir__law_plan (lv__law_plan n)) (lv__law_plan (n + 1)) (ck__law_plan _) (fun A hr => ?_) E.bi (fun os r h => ⟨4000, h⟩)
      have c__law_next : CallOk ⟨P, w, K, mg, base, A, true⟩ "_law_next" [] sem__law_next_v3 2 := callOk_of hf__law_next F__law_next.kp (bd__law_next F__law_next) E.g__law_next rfl (hr.mono (Nat.le_trans (by decide) (Nat.le_add_right 3 n))) (by decide)
      have c_self : CallOk ⟨P, w, K, mg, base, A, true⟩ "_law_plan" [] (lv__law_plan n) 3 := callOk_of ih F.kp (bd__law_plan F) E.g__law_plan rfl hr (by decide)
      simp only [ir__law_plan, ItKOk, CallsSs, CallsS, CallsHs, CallsE, CallsEs, Gx.hot, List.length, and_true, true_and, implies_true, ncalm, Bool.false_eq_true, false_implies, eq_self, c__law_next, c_self]
  exact key 30
def nm__law_deep : List Str := ["_law_plan_here", "_law_part"]
def ps__law_deep : List Str := ["_law_plan_here"]
theorem sc__law_deep : FnScope nm__law_deep ps__law_deep dd__law_deep.scope := C8.fnScope_by (by decide +kernel)
theorem ck__law_deep (sem : FS) : chkSs nm__law_deep (ir__law_deep sem) dd__law_deep.scope dd__law_deep.body = true := by kernel_rfl
theorem bd__law_deep {fd : FuncData} (F : FD K dd__law_deep fd) : Binds K fd ps__law_deep [] := FunD.bindsN F fun _ _ _ _ _ _ us hl => match us, hl with | [_], _ => rfl
theorem ok__law_deep (E : Env K mg) {fd : FuncData} (F : FD K dd__law_deep fd) : FnOk P w K mg base (CX P w) 31 (He.ga K "_law_deep") fd ps__law_deep (spOf ⟨K, mg, w⟩ 1 sem__law_deep) := by
  have key : ∀ n : Nat, FnOk P w K mg base (CX P w) (1 + n) (He.ga K "_law_deep") fd ps__law_deep (spOf ⟨K, mg, w⟩ 1 (lv__law_deep n)) := by
    intro n
    induction n with
    | zero =>
      exact fn_none
    | succ n ih =>
      refine fn_sound F sc__law_deep (ir__law_deep (lv__law_deep n)) (lv__law_deep (n + 1)) (ck__law_deep _) (fun A hr => ?_) E.bi (fun os r h => ⟨4000, h⟩)

      have c_self : CallOk ⟨P, w, K, mg, base, A, true⟩ "_law_deep" [] (lv__law_deep n) 1 := callOk_of ih F.kp (bd__law_deep F) E.g__law_deep rfl hr (by decide)
      simp only [ir__law_deep, e1__law_deep, ItKOk, CallsSs, CallsS, CallsHs, CallsE, CallsEs, Gx.hot, List.length, and_true, true_and, implies_true, ncalm, Bool.false_eq_true, false_implies, eq_self, c_self]
  exact key 30
def nm__law_is : List Str := ["_law_told", "_law_due"]
def ps__law_is : List Str := ["_law_told", "_law_due"]
theorem sc__law_is : FnScope nm__law_is ps__law_is dd__law_is.scope := C8.fnScope_by (by decide +kernel)
theorem ck__law_is : chkSs nm__law_is ir__law_is dd__law_is.scope dd__law_is.body = true := by decide +kernel
theorem bd__law_is {fd : FuncData} (F : FD K dd__law_is fd) : Binds K fd ps__law_is [] := FunD.bindsN F fun _ _ _ _ _ _ us hl => match us, hl with | [_, _], _ => rfl
theorem ok__law_is (E : Env K mg) {fd : FuncData} (F : FD K dd__law_is fd) : FnOk P w K mg base (CX P w) 1 (He.ga K "_law_is") fd ps__law_is (spOf ⟨K, mg, w⟩ 2 sem__law_is) := by
  refine fn_sound F sc__law_is ir__law_is sem__law_is ck__law_is (fun A hr => ?_) E.bi (fun os r h => ⟨4000, h⟩)

  simp only [ir__law_is, ItKOk, CallsSs, CallsS, CallsHs, CallsE, CallsEs, Gx.hot, List.length, and_true, true_and, implies_true, ncalm, Bool.false_eq_true, false_implies, eq_self]
def nm_law : List Str := ["_law_script", "_law_plan_here", "_law_kept", "_law_due", "_law_depth", "_law_part"]
def ps_law : List Str := ["_law_script"]
theorem sc_law : FnScope nm_law ps_law dd_law.scope := C8.fnScope_by (by decide +kernel)
theorem ck_law : chkSs nm_law ir_law_v60 dd_law.scope dd_law.body = true := by decide +kernel
theorem ok_law (E : Env K mg) {fd : FuncData} (F : FD K dd_law fd) : FnG P w K mg base 34 (He.ga K "law") fd ps_law (spOf ⟨K, mg, w⟩ 1 sem_law_v60) := by
  obtain ⟨fd__law_cell_at, F__law_cell_at⟩ := E.d__law_cell_at
  have hf__law_cell_at := ok__law_cell_at (P := P) (w := w) (base := base) E F__law_cell_at
  obtain ⟨fd__law_deep, F__law_deep⟩ := E.d__law_deep
  have hf__law_deep := ok__law_deep (P := P) (w := w) (base := base) E F__law_deep
  obtain ⟨fd__law_is, F__law_is⟩ := E.d__law_is
  have hf__law_is := ok__law_is (P := P) (w := w) (base := base) E F__law_is
  obtain ⟨fd__law_plan, F__law_plan⟩ := E.d__law_plan
  have hf__law_plan := ok__law_plan (P := P) (w := w) (base := base) E F__law_plan
  obtain ⟨fd_many, F_many⟩ := E.d_many
  have hf_many := ok_many (P := P) (w := w) (base := base) E F_many
  obtain ⟨fd_plan_depth, F_plan_depth⟩ := E.d_plan_depth
  have hf_plan_depth := ok_plan_depth (P := P) (w := w) (base := base) E F_plan_depth
  refine fn_soundG F sc_law ir_law_v60 sem_law_v60 ck_law (fun A hr hG => ?_) E.bi (fun os r h => ⟨4000, h⟩)
  have c__law_cell_at : CallOk ⟨P, w, K, mg, base, A, true⟩ "_law_cell_at" [] sem__law_cell_at 2 := callOk_of hf__law_cell_at F__law_cell_at.kp (bd__law_cell_at F__law_cell_at) E.g__law_cell_at rfl (hr.mono (by decide)) (by decide)
  have c__law_deep : CallOk ⟨P, w, K, mg, base, A, true⟩ "_law_deep" [] sem__law_deep 1 := callOk_of hf__law_deep F__law_deep.kp (bd__law_deep F__law_deep) E.g__law_deep rfl (hr.mono (by decide)) (by decide)
  have c__law_is : CallOk ⟨P, w, K, mg, base, A, true⟩ "_law_is" [] sem__law_is 2 := callOk_of hf__law_is F__law_is.kp (bd__law_is F__law_is) E.g__law_is rfl (hr.mono (by decide)) (by decide)
  have c__law_plan : CallOk ⟨P, w, K, mg, base, A, true⟩ "_law_plan" [] sem__law_plan 3 := callOk_of hf__law_plan F__law_plan.kp (bd__law_plan F__law_plan) E.g__law_plan rfl (hr.mono (by decide)) (by decide)
  have c_many : CallOk ⟨P, w, K, mg, base, A, true⟩ "many" [] sem_many 1 := callOk_of hf_many F_many.kp (bd_many F_many) E.g_many rfl (hr.mono (by decide)) (by decide)
  have c_plan_depth : CallOk ⟨P, w, K, mg, base, A, true⟩ "plan_depth" [] sem_plan_depth 1 := callOk_of hf_plan_depth F_plan_depth.kp (bd_plan_depth F_plan_depth) E.g_plan_depth rfl (hr.mono (by decide)) (by decide)
  have r0 : PlugOk ⟨P, w, K, mg, base, A, true⟩ plRepr := ok_repr hG
  simp only [ir_law_v60, b1_law_v60, b2_law_v60, ItKOk, CallsSs, CallsS, CallsHs, CallsE, CallsEs, Gx.hot, List.length, and_true, true_and, implies_true, ncalm, Bool.false_eq_true, false_implies, eq_self, c__law_cell_at, c__law_deep, c__law_is, c__law_plan, c_many, c_plan_depth, r0]
end
end K61
local macro_rules
  | `(tactic| simp! [$ls,*]) => `(tactic| simp only [DV.plRepr_ev, DV.evRepr_d, DV.soSetO_ok, DV.soSetO_ev, DV.evSetO_eq, DV.setOO_ol, DV.setOAt_some, DV.plDLit_ev, DV.evDLit_s, DV.strO_s, DV.evS_appinV, DV.appinVB.eq_1, DV.appinVC.eq_1, DV.appinVD.eq_1, DV.plSplit_ev, DV.evSplit_s, DV.plIntS_ev, DV.evIntS_s, DV.intO_some, DV.itpStr_ev, DV.evItStr_s, DV.ixC_ok, DV.ixC_sem, DV.semIx_eq, DV.ixRs_some, DV.ixR_some, DV.plDOneL_ev, DV.plDAdd_ev, DV.soSetC_ok, DV.soSetC_ev, DV.soSetN_ok, DV.soSetN_ev, DV.isLstO_lst, DV.evSetC_eq, DV.evSetN_eq, DV.setIO_lst, DV.setIAt_some, DV.soAppL_ok, DV.soAppL_ev, DV.isOlO_ol, DV.evAppL_ol, DV.appOlO_eq, DV.soDSet_ok, DV.soDSet_ev, DV.owDTake_ok, DV.owDTake_ev, DV.fIx_cons, DV.fIx_nil, DV.plFldO_ev, DV.evFldO_ins, DV.evFldO_ob, DV.fldAt_some, DV.fldP_p, DV.plLenF_ev, DV.evLenF_ob, DV.lenAt_some, DV.lenL_lst, DV.putO_eq, DV.putOB_some, DV.putOB_none, DV.smFld_ok, DV.isObC_ob, DV.smFld_ev, DV.evFldS_ob, DV.fldSA_eq, DV.soFld_ok, DV.soFld_ev, DV.evFldT_ob, DV.smApF_ok, DV.okApF_ob, DV.okAt_some, DV.isL_lst, DV.smApF_ev, DV.evApF_ob, DV.apAt_some, DV.apL_lst, DV.cmM_ok, DV.cmM_sem, DV.cmF_ok, DV.okMAt_some, DV.isM_ob, DV.cmF_sem, DV.semF_ob, DV.callAt_some, DV.callF_some, DV.backF_some, DV.mkO_sem, DV.mkOB_ok, DV.mkOB_ex, DV.setoA_some, DV.setoB_ok, DV.setoB_ex, DV.setoC_some, DV.smutLA_some, DV.smutLC_true, DV.smutLD_ok, DV.callLA_some, DV.callLC_true, DV.unlQ_ok, DV.unlQ_ex, DV.bindQ_ok, DV.bindQ_ex, DV.appQ_ok, DV.appQ_ex, DV.owA_some, DV.owB_ok, DV.owB_ex, DV.owC_some, DV.owD_some, DV.evE_own, DV.evOs_own, DV.evE_plugN, DV.evOs_plugN, DV.evE_callL, DV.evOs_callL, DV.evS_seto, DV.evS_smutL, DV.muCountB_ok, DV.muCountB_ev, DV.muIndexB_ok, DV.muIndexB_ev, DV.plLstRg_ev, DV.evLstRg_i, DV.smClrI_ok, DV.smClrI_ev, DV.isOt_ot, DV.evClrI_1, DV.evClrI_2, DV.plOtL_ev, DV.evOtL_1, DV.evE_lend, DV.evOs_lend, DV.viewE_nil, DV.viewE_some, DV.viewE_none, DV.lendC_bl, DV.lendC_int, DV.lendC_str, DV.lendC_non, DV.lendC_tup, DV.frzs_nil, DV.frzs_cons, DV.plEqNew_ev, DV.evEqNew_eq, DV.plLstRev_ev, DV.evLstRev_l, DV.evLstRev_f, DV.plNotB_ev, DV.evNotB_bl, DV.muExtend_ok, DV.muExtend_ev, DV.mvExtend_eq, DV.mvExtA_some, DV.plMinT_ev, DV.evMinT_eq, DV.minB_some, DV.plDctL_ev, DV.evDctL_eq, DV.dctB_some, DV.evDctA_some, DV.plInD_ev, DV.evInD_dct, DV.evInD_frz, DV.evInD_od, DV.indB_some, DV.plDGet_ev, DV.evDGet_dct, DV.evDGet_frz, DV.getB_some, DV.plDNew_ev, DV.plDOne_ev, DV.oneB_some, DV.smSetD_ev, DV.smSetD_ok, DV.putB_some, DV.smSetL_ev, DV.smSetL_ok_dct, DV.smSetL_ok_od, DV.evSetL_dct, DV.evSetL_od, DV.setlB_some, DV.setlC_none, DV.smAppD_ev, DV.smAppD_ok, DV.evAppD_od, DV.appdB_some, DV.smSetApp_ev, DV.smSetApp_ok_dct, DV.smSetApp_ok_od, DV.evSetApp_dct, DV.evSetApp_od, DV.setaB_some, DV.muDGet1_ok, DV.muDGet2_ok, DV.muDGet1_ev, DV.muDGet2_ev, DV.dctOf_dct, DV.dctOf_frz, DV.dctKs_dct, DV.dctKs_frz, DV.dctKs_od, DV.mget1_some, DV.mget1_none, DV.mget2_some, DV.mget2_none, DV.plSortD_ev, DV.evSortD_lst, DV.evSortD_frz, DV.evSortD_dct, DV.evSortD_fdct, DV.sortB_ok, DV.plLstK_ev, DV.evLstK_eq, DV.lstkB_some, DV.plLenK_ev, DV.evLenK_eq, DV.lenkB_some, DV.itpKeys_ev, DV.itpItems_ev, DV.itemsB_some, DV.itpRev_l, DV.itpRev_f, DV.itpEnum_l, DV.itpEnum_f, DV.itpZipT_l, DV.itpZipT_f, DV.itpZip_l, DV.itpZip_lf, DV.itpZip_fl, DV.itpZip_f, DV.plRep_ev, DV.evRep_lst, DV.plLenSet_ev, DV.evLenSet_eq, DV.lensB_some, DV.lensC_some, DV.plSortSetK_ev, DV.evSortSetK_eq, DV.skB_some, DV.skC_some, DV.plSortSet_ev, DV.evSortSet_eq, DV.ssB_some, DV.ssC_some, DV.plStr_ev, DV.evStr_int, DV.evStr_str, DV.plJoin_ev, DV.evJoin_eq, DV.evJoinA_eq, DV.evJoinB_eq, DV.rxF_ev, DV.evRx_eq, DV.evRxB.eq_1, DV.evRxB.eq_2, DV.plFldX_ev, DV.evFldX_exc, DV.evE_plugT, DV.evOs_plugT, DV.evE_callM, DV.evOs_callM, DV.evS_smut, DV.evS_rsp, DV.callMA.eq_1, DV.consS.eq_1, DV.consS.eq_2, DV.smutA.eq_1, DV.smutB.eq_1, DV.smutB.eq_2, DV.smutC.eq_1, DV.smutD.eq_1, DV.nmD.eq_1, DV.nmD.eq_2, DV.rspB.eq_1, DV.rspB.eq_2, DV.rspC.eq_1, DV.rspD.eq_1, DV.evS_kill, DV.evS_try, DV.evHs_nil, DV.evHs_cons, DV.hsB.eq_1, DV.hsB.eq_2, DV.hsC.eq_1, DV.suiteI.eq_1, DV.suiteI.eq_2, DV.suiteK, DV.suiteE_nx, DV.suiteE_rt, DV.tryB_nx, DV.tryB_rt, DV.tryB_ct, DV.tryB_bk, DV.tryB_ex, DV.plugB.eq_1, DV.plugB.eq_2, DV.plugC_some, DV.evE_plug, DV.evE_callG, DV.plFld_ev, DV.evFld_ins, DV.lookF_cons, DV.plIsC_ev, DV.evIsC_ins, DV.isCB.eq_1, DV.mkC_sem, DV.mkSem_eq, DV.mkB.eq_1, DV.mcH_ok, DV.mcH_sem, DV.evE_callH, DV.callHB.eq_1, DV.callHB.eq_2, DV.callHC.eq_1, DV.consQ.eq_1, DV.consQ.eq_2, DV.evE_callV, DV.callV.eq_1, DV.callV.eq_2, DV.callW.eq_1, DV.evE_mut, DV.evOs_plug, DV.evOs_callG, DV.evOs_callH, DV.evOs_callV, DV.evOs_mut, DV.mutA.eq_1, DV.mutB.eq_1, DV.mutB.eq_2, DV.mutC.eq_1, DV.mutD.eq_1, DV.plIsx_ev, DV.evIsx, DV.clsO, DV.plSortI_ev, DV.evSortI, DV.plTupRev_ev, DV.evTupRev, DV.plIsB_ev, DV.evIsB, DV.muInsert_ok, DV.muInsert_ev, DV.muPopAt_ok, DV.muPopAt_ev, DV.muPop_ok, DV.muPop_ev, DV.muClear_ok, DV.muClear_ev, DV.muCount_ok, DV.muCount_ev, DV.isLst, DV.isLsts, DV.lstEv, DV.rdEv, DV.O.lsts, DV.mvInsert, DV.mvPopAt, DV.mvPop, DV.mvClear, DV.mvCount, DV.fSt, DV.fStC.eq_1, DV.ctNx_nx, DV.ctNx_ct, DV.ctNx_bk, DV.ctNx_rt, DV.ctNx_ex, DV.lcSt, DV.lcSa.eq_1, DV.lcSb.eq_1, DV.lcSc.eq_1, DV.evS_rse, DV.evE_idxT, DV.evOs_idxT, DV.idxC.eq_1, DV.evS_setin, DV.setinA.eq_1, DV.setinA.eq_2, DV.setinB.eq_1, DV.setinC.eq_1, DV.setinD.eq_1, DV.setinO_int, DV.setinK.eq_1, DV.setinL.eq_1, DV.evS_appin, DV.evE_lenI, DV.evE_cmp2, DV.evE_ite, DV.evOs_lenI, DV.evOs_cmp2, DV.evOs_ite, DV.appinB.eq_1, DV.appinC.eq_1, DV.appinD.eq_1, DV.appinO.eq_1, DV.lenIC.eq_1, DV.lenIB.eq_1, DV.lenIO, DV.cmp2E_eq, DV.cmp2D.eq_1, DV.cmp2B.eq_1, DV.cmpZ, DV.cmp2C.eq_1, DV.iteX_bl, DV.iteB_bl, DV.evSs_nil, DV.evSs_cons, DV.evS_asg, DV.evS_asgT, DV.evS_asgO, DV.evS_seti, DV.evS_app, DV.evS_ex, DV.evS_ife, DV.evS_for, DV.evS_whl, DV.evS_ret, DV.evS_retN, DV.evS_pass, DV.evS_brk, DV.evS_cnt, DV.evS_fz, DV.andB_bl, DV.orB_bl, DV.tsB_bl, DV.evE_var, DV.evE_mv, DV.evE_non, DV.evE_bl, DV.evE_int, DV.evE_str, DV.evE_glob, DV.evE_prim, DV.evE_isi, DV.evE_tup, DV.evE_lst, DV.evE_ot, DV.evE_ol, DV.evE_frz, DV.evE_and, DV.evE_or, DV.evE_not, DV.evE_call, DV.evE_lc, DV.evAnd_one, DV.evAnd_cons, DV.evOr_one, DV.evOr_cons, DV.evTs_nil, DV.evTs_cons, DV.evEs_nil, DV.evEs_cons, DV.evOs_nil, DV.evOs_var, DV.evOs_mv, DV.evOs_non, DV.evOs_bl, DV.evOs_int, DV.evOs_str, DV.evOs_glob, DV.evOs_prim, DV.evOs_isi, DV.evOs_tup, DV.evOs_lst, DV.evOs_ot, DV.evOs_ol, DV.evOs_frz, DV.evOs_and, DV.evOs_or, DV.evOs_not, DV.evOs_call, DV.evOs_lc, DV.gb1, DV.gb2, DV.gb3, DV.gb4, DV.gb5, DV.gb6, DV.ini, DV.setAll, DV.setAllO, DV.vws, DV.Opd.vw, DV.pev, DV.i2, DV.it1, DV.lsts1, DV.pAdd, DV.pEq, DV.pIsN, DV.isNonO, DV.pIn, DV.pIdx, DV.cutO, DV.pSl, DV.pSl2, DV.pSlL, DV.pSlH, DV.pLen, DV.pInt1, DV.pNeg, DV.O.items, DV.O.frz, DV.intsD, DV.lockd, DV.isOwn, DV.ownIx, DV.somes, DV.hideAll, DV.backAll, DV.pures, DV.Tg.set, DV.Tg.slots, DV.itD, DV.itSeq, DV.ret_rt, DV.ret_nx, DV.ret_ex, DV.R.ex.injEq, DV.intsD_map, DV.eqD_int, DV.eqD_bl, DV.runB, DV.tstB, DV.cndB, DV.iteB.eq_3, DV.andB.eq_3, DV.orB.eq_3, DV.seqB.eq_1, DV.seqB.eq_2, DV.seqB.eq_3, DV.seqB.eq_4, DV.seqB.eq_5, DV.seqB.eq_6, DV.endFor.eq_1, DV.endFor.eq_2, DV.forD.eq_1, DV.forD.eq_2, DV.forC.eq_1, DV.forC.eq_2, DV.forB.eq_1, DV.forB.eq_2, DV.forB.eq_3, DV.setiB.eq_1, DV.setiB.eq_2, DV.setiC.eq_1, DV.appB.eq_1, DV.fzB.eq_1, DV.varB.eq_1, DV.mvB.eq_1, DV.okD.eq_1, DV.okD.eq_2, DV.primC.eq_1, DV.primC.eq_2, DV.primB.eq_1, DV.primB.eq_2, DV.primB.eq_3, DV.blD.eq_1, DV.blD.eq_2, DV.isiC.eq_1, DV.isiB.eq_1, DV.isiB.eq_2, DV.isiB.eq_3, DV.tupD.eq_1, DV.tupD.eq_2, DV.tupB.eq_1, DV.tupB.eq_2, DV.tupB.eq_3, DV.lstD.eq_1, DV.lstD.eq_2, DV.lstB.eq_1, DV.lstB.eq_2, DV.lstB.eq_3, DV.otB.eq_1, DV.otB.eq_2, DV.otB.eq_3, DV.olB.eq_1, DV.olB.eq_2, DV.olB.eq_3, DV.frzB.eq_1, DV.frzB.eq_2, DV.frzB.eq_3, DV.notB.eq_1, DV.notB.eq_2, DV.callD.eq_1, DV.callD.eq_2, DV.callD.eq_3, DV.callC.eq_1, DV.callC.eq_2, DV.callB.eq_1, DV.callB.eq_2, DV.callB.eq_3, DV.lcE.eq_1, DV.lcE.eq_2, DV.lcD.eq_1, DV.lcD.eq_2, DV.lcC.eq_1, DV.lcC.eq_2, DV.lcB.eq_1, DV.lcB.eq_2, DV.esC.eq_1, DV.esC.eq_2, DV.esC.eq_3, DV.esB.eq_1, DV.esB.eq_2, DV.esB.eq_3, DV.osC.eq_1, DV.osC.eq_2, DV.osC.eq_3, DV.osV.eq_1, DV.osB.eq_1, DV.osB.eq_2, DV.osB.eq_3, DV.stO.eq_1, DV.stO.eq_2, DV.stO.eq_3, DV.retO.eq_1, DV.retO.eq_2, DV.retO.eq_3, DV.dropO.eq_1, DV.dropO.eq_2, DV.dropO.eq_3, DV.tupT.eq_1, DV.tupT.eq_2, DV.tupO.eq_1, DV.tupO.eq_2, DV.appO.eq_1, DV.appO.eq_2, DV.setO.eq_1, DV.setO.eq_2, List.contains_cons, List.contains_nil, Option.getD_some, DV.ofString_inj, DV.at50, DV.at51, DV.at52, DV.at53, DV.at54, DV.at40, DV.at41, DV.at42, DV.at43, DV.at30, DV.at31, DV.at32, DV.at20, DV.at21, DV.at10, DV.at9, DV.beq_ff, DV.beq_tf, DV.beq_ft, DV.beq_tt, DV.orD_some, DV.inD_cons, DV.inD_nil_bl, DV.inD_nil_int, DV.inD_nil_non, DV.inD_nil_lit, DV.eqD_non, DV.eqD_non_int, DV.eqD_int_non, DV.str_beq, DV.eqD_lit, String.reduceBEq, String.reduceEq, Bool.not_false, Bool.not_true, Int.reducePow, Int.reduceToNat, Int.reduceDiv, Int.reduceMod, Nat.reducePow, List.lookup_cons, List.lookup_nil, Option.isSome_some, Option.isSome_none, Bool.or_false, Bool.or_true, Bool.true_or, Bool.false_or, Bool.and_true, Bool.true_and, Bool.and_false, Bool.false_and, DV.rngD_length, Option.map_some, Option.map_none, DV.le_line, DV.lt_line, Nat.zero_le, Nat.le_refl, List.map_cons, List.map_nil, List.cons_append, List.nil_append, List.append_nil, List.replicate_succ, List.replicate_zero, List.length_cons, List.length_nil, List.length_append, List.length_map, List.getElem?_cons_zero, List.getElem?_cons_succ, List.getElem?_nil, List.set_cons_zero, List.set_cons_succ, List.getD_cons_zero, List.getD_cons_succ, List.nodup_nil, List.nodup_cons, List.not_mem_nil, List.mem_cons, List.mem_singleton, if_true, if_false, ite_true, ite_false, eq_self, and_self, and_true, true_and, not_false_eq_true, not_true_eq_false, false_and, and_false, or_false, false_or, or_true, true_or, false_imp_iff, implies_true, forall_eq, decide_true, decide_false, Bool.false_eq_true, bne_self_eq_false, Bool.true_eq_false, reduceCtorEq, Nat.zero_add, Nat.add_zero, Nat.sub_self, Nat.reduceAdd, Nat.reduceSub, Nat.reduceLT, Nat.reduceLeDiff, Nat.reduceEqDiff, Nat.zero_lt_succ, Int.reduceAdd, Int.reduceSub, Int.reduceNeg, Int.reduceMul, Int.reduceLT, Int.reduceLE, Int.reduceEq, Int.reduceBEq, Int.zero_add, decide_eq_true_eq, beq_iff_eq, beq_eq_false_iff_ne, ne_eq, beq_self_eq_true, bne_iff_ne, Bool.xor_false, Bool.bne_false, Bool.bne_true, Bool.not_eq_true, Bool.not_eq_true', Option.some.injEq, Prod.mk.injEq, DV.R.ok.injEq, DV.O.p.injEq, DV.D.int.injEq, DV.D.bl.injEq, DV.D.str.injEq, exists_eq_left, exists_eq_left', Option.bind_some, Int.cast_ofNat_Int, Int.ofNat_eq_natCast, Int.natCast_add, Nat.not_lt_zero, $ls,*])
namespace LP
open PySem PySem.Spec PyProof.Rows L2 DV IR
def Mn : Nat → Nat
  | 0 => 1
  | n + 1 => 1 + 3 * Mn n + 3 * Mn n * Mn n
inductive Pl where
  | e | one (i : Nat) (p : Pl) | two (i : Nat) (p q : Pl)
  deriving DecidableEq
def Pl.dep : Pl → Nat
  | .e => 0
  | .one _ p => 1 + p.dep
  | .two _ p q => max (1 + p.dep) (1 + q.dep)
def Pl.wf : Pl → Prop
  | .e => True
  | .one i p => i < 3 ∧ p.wf
  | .two i p q => i < 3 ∧ p.wf ∧ q.wf
def wA : Nat → Str
  | 0 => "walk" | 1 => "drop" | _ => "spare"
def wG : Nat → Str
  | 0 => "lock" | 1 => "door" | _ => "bar"
def Pl.d : Pl → D
  | .e => .tup [.str "end"]
  | .one i p => .tup [.str (wA i), p.d]
  | .two i p q => .tup [.str (wG i), p.d, q.d]
theorem many {d : Nat} (h : d ≤ 6) : sem_many [.p (.int d)] = some (.ok (.p (.int (Mn d))), [some (.p (.int d))]) := by
  rcases (show d = 0 ∨ d = 1 ∨ d = 2 ∨ d = 3 ∨ d = 4 ∨ d = 5 ∨ d = 6 by omega) with rfl | rfl | rfl | rfl | rfl | rfl | rfl <;> kernel_rfl
theorem cut1 {a : D} : DV.cutD [a] (some 1) none = [] := rfl
theorem cut2 {a b : D} : DV.cutD [a, b] (some 1) none = [b] := rfl
theorem cut3 {a b c : D} : DV.cutD [a, b, c] (some 1) none = [b, c] := rfl
theorem plan_depth : ∀ (p : Pl) (k : Nat), p.dep < k → Ret (lv_plan_depth k [.p p.d]) (.ok (.p (.int p.dep)))
  | p, 0, hk => absurd hk (Nat.not_lt_zero _)
  | .e, k + 1, hk => by
    unfold Pl.d Pl.dep
    refine Ret.sem rfl ?_
    simp! [ir_plan_depth, cut1, forRun, Int.ofNat_zero, Int.natCast_zero]
  | .one i p, k + 1, hk => by
    unfold Pl.dep at hk
    obtain ⟨b, ih⟩ := plan_depth p k (by omega)
    unfold Pl.d Pl.dep
    obtain ⟨X, hX⟩ : ∃ X : Int, ((p.dep : Nat) : Int) = X := ⟨_, rfl⟩
    rw [hX] at ih
    have c : 1 + X > 0 := by omega
    have e : ((1 + p.dep : Nat) : Int) = 1 + X := by omega
    rw [e]
    refine Ret.sem rfl ?_
    simp! [ir_plan_depth, cut2, forRun, b1_plan_depth, ih, c]
  | .two i p q, k + 1, hk => by
    unfold Pl.dep at hk
    obtain ⟨b, ih⟩ := plan_depth p k (by omega)
    obtain ⟨b2, ih2⟩ := plan_depth q k (by omega)
    unfold Pl.d Pl.dep
    obtain ⟨X, hX⟩ : ∃ X : Int, ((p.dep : Nat) : Int) = X := ⟨_, rfl⟩
    obtain ⟨Y, hY⟩ : ∃ Y : Int, ((q.dep : Nat) : Int) = Y := ⟨_, rfl⟩
    rw [hX] at ih
    rw [hY] at ih2
    have c : 1 + X > 0 := by omega
    have e : ((max (1 + p.dep) (1 + q.dep) : Nat) : Int) = if 1 + Y > 1 + X then 1 + Y else 1 + X := by split <;> omega
    rw [e]
    refine Ret.sem rfl ?_
    simp! [ir_plan_depth, cut3, forRun, b1_plan_depth, ih, ih2, c]
theorem at0 {a : D} {l : List D} : L2.atI (a :: l) 0 = some a := atI_zero
def cellV (ns : List Int) (k : Int) : Int := ns.getD k.toNat 0
theorem cell_at (ns : List Int) (k : Int) (h0 : 0 ≤ k) : Ret (sem__law_cell_at [.p (.lst (ns.map .int)), .p (.int k)]) (.ok (.p (.int (cellV ns k)))) := by
  refine Ret.sem rfl ?_
  by_cases h : k < ns.length
  · have e : L2.atI (ns.map D.int) k = some (.int (cellV ns k)) := atI_int h0 h
    simp! [ir__law_cell_at, h, e]
  · have e : cellV ns k = 0 := by
      unfold cellV
      rw [List.getD_eq_getElem?_getD, List.getElem?_eq_none (by omega)]
      rfl
    simp! [ir__law_cell_at, h, e]
end LP
namespace LC
open PySem PySem.Spec PyProof.Rows L2 DV IR
def cellV (ns : List Int) (k : Int) : Int := if k < ns.length then (ns.getD k.toNat 0 * 48271 + k * k * 69621) % 2147483647 else (k * k * 69621 + ns.length * 7919 + 5) % 2147483647
/-- small numbers may be multiplied -/
theorem mulL {i : Int} (h : -1000000000000 < i ∧ i < 1000000000000) : (-18446744073709551616 < i ∧ i < 18446744073709551616) = True := eq_true (by omega)
theorem cell (ns : List Int) (k : Int) (h0 : 0 ≤ k) (h1 : k ≤ 1000) : Ret (sem__law_cell [.p (.lst (ns.map .int)), .p (.int k)]) (.ok (.p (.int (cellV ns k)))) := by
  refine Ret.sem rfl ?_
  have m4 := mulL (i := k) (by omega)
  by_cases h : k < ns.length
  · have e := atI_int (ns := ns) h0 h
    have c : cellV ns k = (ns.getD k.toNat 0 * 48271 + k * k * 69621) % 2147483647 := by unfold cellV; rw [if_pos h]
    simp! [ir__law_cell, h, e, m4, c]
  · have c : cellV ns k = (k * k * 69621 + ns.length * 7919 + 5) % 2147483647 := by unfold cellV; rw [if_neg h]
    obtain ⟨L, hL⟩ : ∃ L : Int, (ns.length : Int) = L := ⟨_, rfl⟩
    rw [hL] at h c
    simp! [ir__law_cell, hL, h, m4, c]
end LC
namespace LP
open PySem PySem.Spec PyProof.Rows L2 DV IR LC
theorem next (ns : List Int) (c v : Int) (h0 : 0 ≤ c) (h1 : c ≤ 1000) : ∃ X, sem__law_next_v3 [.p (.lst (ns.map .int)), .lst [.int c, .int v]] = some (.ok (.p (.int X)), [some (.p (.lst (ns.map .int))), some (.lst [.int (c + 1), .int v])]) := by
  obtain ⟨b, e⟩ := cell_at ns ((c + 1) % 63) (by omega)
  generalize cellV ns ((c + 1) % 63) = x at e
  have k1 : 0 < 1 + (c + 1) / 63 := by omega
  have k2 : 1 + (c + 1) / 63 < 1073741824 := by omega
  refine ⟨x / (1 + (c + 1) / 63), ?_⟩
  show semOf 2 2 ir__law_next_v3 4000 _ = _
  rw [semOf_eq (n := 2) rfl]
  have z : evSs 4000 ir__law_next_v3 [some (.p (.lst (ns.map .int))), some (.lst [.int c, .int v])] = some (.rt (.p (.int (x / (1 + (c + 1) / 63)))), [some (.p (.lst (ns.map .int))), some (.lst [.int (c + 1), .int v])]) := by
    have hix : L2.ixN 2 0 = some 0 := rfl
    simp! [ir__law_next_v3, e, k1, k2, hix]
  show finC _ 2 (evSs 4000 ir__law_next_v3 [some (.p (.lst (ns.map .int))), some (.lst [.int c, .int v])]) = _
  rw [z]
  rfl
theorem plan_e (L : List D) (c c1 v X R : Int) (sem : FS) (en : sem__law_next_v3 [.p (.lst L), .lst [.int c, .int v]] = some (.ok (.p (.int X)), [some (.p (.lst L)), some (.lst [.int c1, .int v])])) (h : R = 0 ∨ X % 9 = 0 ∨ v < 1) : ∃ ρ, evSs 4000 (ir__law_plan sem) [some (.p (.lst L)), some (.lst [.int c, .int v]), some (.p (.int R)), none, none, none, none] = some (.rt (.p (.tup [.str "end"])), some (.p (.lst L)) :: some (.lst [.int c1, .int v]) :: some (.p (.int R)) :: ρ) := by
  refine ⟨[some (.p (.int X)), some (.p (.int (X % 9))), none, none], ?_⟩
  by_cases h1 : R = 0
  · simp! [ir__law_plan, giveBack, en, h1]
  · have h1' : (R == 0) = false := beq_eq_false_iff_ne.mpr h1
    by_cases h2 : X % 9 = 0
    · simp! [ir__law_plan, giveBack, en, h1', h2]
    · have h2' : (X % 9 == 0) = false := beq_eq_false_iff_ne.mpr h2
      have h3 : v < 1 := by omega
      simp! [ir__law_plan, giveBack, en, h1', h2', h3]
theorem plan_1 (L S2 : List D) (c c1 v X R W : Int) (z : Str) (D1 : D) (sem : FS) (en : sem__law_next_v3 [.p (.lst L), .lst [.int c, .int v]] = some (.ok (.p (.int X)), [some (.p (.lst L)), some (.lst [.int c1, .int v])])) (h1 : (R == 0) = false) (hW : X % 9 = W) (h2 : (W == 0) = false) (h3 : ¬ v < 1) (h5 : W < 5) (hz : L2.atI [D.str "walk", .str "drop", .str "spare", .str "walk"] (W - 1) = some (.str z))
    (ih : sem [.p (.lst L), .lst [.int c1, .int (v - 1)], .p (.int (R - 1))] = some (.ok (.p D1), [some (.p (.lst L)), some (.lst S2), some (.p (.int (R - 1)))])) : ∃ ρ, evSs 4000 (ir__law_plan sem) [some (.p (.lst L)), some (.lst [.int c, .int v]), some (.p (.int R)), none, none, none, none] = some (.rt (.p (.tup [.str z, D1])), some (.p (.lst L)) :: some (.lst S2) :: some (.p (.int R)) :: ρ) := by
  refine ⟨[some (.p (.int X)), some (.p (.int W)), none, none], ?_⟩
  have hix : L2.ixN 2 1 = some 1 := rfl
  simp! [ir__law_plan, giveBack, en, h1, hW, h2, h3, h5, hz, hix, giveBack, ih]
theorem plan_2 (L S3 : List D) (c c1 c2 v v2 X R W : Int) (z : Str) (D1 D2 : D) (sem : FS) (en : sem__law_next_v3 [.p (.lst L), .lst [.int c, .int v]] = some (.ok (.p (.int X)), [some (.p (.lst L)), some (.lst [.int c1, .int v])])) (h1 : (R == 0) = false) (hW : X % 9 = W) (h2 : (W == 0) = false) (h3 : ¬ v < 1) (h5 : ¬ W < 5) (hz : L2.atI [D.str "lock", .str "door", .str "bar", .str "lock"] (W - 5) = some (.str z))
    (ih : sem [.p (.lst L), .lst [.int c1, .int (v - 1)], .p (.int (R - 1))] = some (.ok (.p D1), [some (.p (.lst L)), some (.lst [.int c2, .int v2]), some (.p (.int (R - 1)))])) (ih2 : sem [.p (.lst L), .lst [.int c2, .int v2], .p (.int (R - 1))] = some (.ok (.p D2), [some (.p (.lst L)), some (.lst S3), some (.p (.int (R - 1)))])) : ∃ ρ, evSs 4000 (ir__law_plan sem) [some (.p (.lst L)), some (.lst [.int c, .int v]), some (.p (.int R)), none, none, none, none] = some (.rt (.p (.tup [.str z, D1, D2])), some (.p (.lst L)) :: some (.lst S3) :: some (.p (.int R)) :: ρ) := by
  refine ⟨[some (.p (.int X)), some (.p (.int W)), some (.p (.str z)), some (.p D1)], ?_⟩
  have hix : L2.ixN 2 1 = some 1 := rfl
  simp! [ir__law_plan, giveBack, en, h1, hW, h2, h3, h5, hz, hix, giveBack, ih, ih2]
theorem wAat (W : Int) (h0 : 0 < W) (h1 : W < 5) : ∃ i, i < 3 ∧ L2.atI [D.str "walk", .str "drop", .str "spare", .str "walk"] (W - 1) = some (.str (wA i)) := by
  rcases (show W = 1 ∨ W = 2 ∨ W = 3 ∨ W = 4 by omega) with rfl | rfl | rfl | rfl
  · exact ⟨0, by decide, rfl⟩
  · exact ⟨1, by decide, rfl⟩
  · exact ⟨2, by decide, rfl⟩
  · exact ⟨0, by decide, rfl⟩
theorem wGat (W : Int) (h0 : 5 ≤ W) (h1 : W < 9) : ∃ i, i < 3 ∧ L2.atI [D.str "lock", .str "door", .str "bar", .str "lock"] (W - 5) = some (.str (wG i)) := by
  rcases (show W = 5 ∨ W = 6 ∨ W = 7 ∨ W = 8 by omega) with rfl | rfl | rfl | rfl
  · exact ⟨0, by decide, rfl⟩
  · exact ⟨1, by decide, rfl⟩
  · exact ⟨2, by decide, rfl⟩
  · exact ⟨0, by decide, rfl⟩
theorem plan_fin {L S2 : List D} {c v R : Int} {k : Nat} {P : D} (h : ∃ ρ, evSs 4000 (ir__law_plan (lv__law_plan k)) [some (.p (.lst L)), some (.lst [.int c, .int v]), some (.p (.int R)), none, none, none, none] = some (.rt (.p P), some (.p (.lst L)) :: some (.lst S2) :: some (.p (.int R)) :: ρ)) : lv__law_plan (k + 1) [.p (.lst L), .lst [.int c, .int v], .p (.int R)] = some (.ok (.p P), [some (.p (.lst L)), some (.lst S2), some (.p (.int R))]) := by
  obtain ⟨ρ, e⟩ := h
  show semOf 7 3 (ir__law_plan (lv__law_plan k)) 4000 _ = _
  rw [semOf_eq (n := 3) rfl]
  show finC _ 3 (evSs 4000 (ir__law_plan (lv__law_plan k)) [some (.p (.lst L)), some (.lst [.int c, .int v]), some (.p (.int R)), none, none, none, none]) = _
  rw [e]
  rfl
theorem law_plan_w (ns : List Int) : ∀ (room k : Nat) (c v : Int), room < k → 0 ≤ c → 0 ≤ v → c + 2 * v + 1 ≤ 900 → ∃ (p : Pl) (c' v' : Int), p.wf ∧ p.dep ≤ room ∧ c ≤ c' ∧ 0 ≤ v' ∧ c' + 2 * v' ≤ c + 2 * v + 1 ∧ lv__law_plan k [.p (.lst (ns.map .int)), .lst [.int c, .int v], .p (.int room)] = some (.ok (.p p.d), [some (.p (.lst (ns.map .int))), some (.lst [.int c', .int v']), some (.p (.int room))])
  | room, 0, c, v, hk, _, _, _ => absurd hk (Nat.not_lt_zero _)
  | room, k + 1, c, v, hk, h0, hv, h1 => by
    obtain ⟨X, en⟩ := next ns c v h0 (by omega)
    by_cases hE : (room : Int) = 0 ∨ X % 9 = 0 ∨ v < 1
    · exact ⟨.e, c + 1, v, trivial, Nat.zero_le _, by omega, hv, by omega, plan_fin (plan_e _ c _ v X room _ en hE)⟩
    · obtain ⟨r, rfl⟩ : ∃ r, room = r + 1 := ⟨room - 1, by omega⟩
      have hr : ((r + 1 : Nat) : Int) - 1 = (r : Int) := by omega
      have z1 : (((r + 1 : Nat) : Int) == 0) = false := beq_eq_false_iff_ne.mpr (by omega)
      have z2 : (X % 9 == 0) = false := beq_eq_false_iff_ne.mpr (by omega)
      have z3 : ¬ v < 1 := by omega
      obtain ⟨p, c2, v2, pw, pd, ple, pv, plt, ih⟩ := law_plan_w ns r k (c + 1) (v - 1) (by omega) (by omega) (by omega) (by omega)
      rw [← hr] at ih
      by_cases h5 : X % 9 < 5
      · obtain ⟨i, hi, hz⟩ := wAat (X % 9) (by omega) h5
        exact ⟨.one i p, c2, v2, ⟨hi, pw⟩, by rw [Pl.dep]; omega, by omega, pv, by omega, plan_fin (plan_1 _ _ c _ v X _ _ _ _ _ en z1 rfl z2 z3 h5 hz ih)⟩
      · obtain ⟨i, hi, hz⟩ := wGat (X % 9) (by omega) (by omega)
        obtain ⟨q, c3, v3, qw, qd, qle, qv, qlt, ih2⟩ := law_plan_w ns r k c2 v2 (by omega) (by omega) pv (by omega)
        rw [← hr] at ih2
        exact ⟨.two i p q, c3, v3, ⟨hi, pw, qw⟩, by rw [Pl.dep]; omega, by omega, qv, by omega, plan_fin (plan_2 _ _ c _ c2 v v2 X _ _ _ _ _ _ en z1 rfl z2 z3 h5 hz ih ih2)⟩
end LP
namespace K61
open PySem PySem.Spec PyProof.Rows L2 DV IR LC LP
theorem dep1 {i : Nat} {p : Pl} : (Pl.one i p).dep = 1 + p.dep := rfl
theorem dep2 {i : Nat} {p q : Pl} : (Pl.two i p q).dep = max (1 + p.dep) (1 + q.dep) := rfl
theorem dp_e (sem : FS) : ∃ b, semOf 2 1 (ir__law_deep sem) 4000 [.p (.tup [.str "end"])] = some (.ok (.p (.int 0)), b) := by
  refine Ret.sem rfl ?_
  simp! [ir__law_deep]
theorem dp_n (sem : FS) (z : Str) (R : List D) (X M : Int) (Y : List Int) (hz : eqD (.str z) (.str "end") = some false) (T : List D) (hc : DV.cutD (.str z :: R) (some 1) none = T) (hT : T.length ≤ 1000) (k : lcRun (.one 1) (cndB []) (tstB (e1__law_deep sem)) T [some (.p (.tup (.str z :: R))), none] = some ((X :: Y).map .int, [some (.p (.tup (.str z :: R))), none])) (hm : maxL X Y = M) : ∃ b, semOf 2 1 (ir__law_deep sem) 4000 [.p (.tup (.str z :: R))] = some (.ok (.p (.int (1 + M))), b) := by
  have hT2 : T.length ≤ sizeLine := Nat.le_trans hT (by decide)
  have hi : intsD ((X :: Y).map .int) = some (X :: Y) := intsD_map (X :: Y)
  generalize (X :: Y).map D.int = Z at k hi
  refine Ret.sem rfl ?_
  simp! [ir__law_deep, at0, hz, hc, hT2, k, hi, hm]
theorem dp_q (sem : FS) (C : D) (xs : List (D × Int)) (h : ∀ x ∈ xs, ∃ b, sem [.p x.1] = some (.ok (.p (.int x.2)), b)) : lcRun (.one 1) (cndB []) (tstB (e1__law_deep sem)) (xs.map (·.1)) [some (.p (C)), none] = some (xs.map fun x => .int x.2, [some (.p (C)), none]) :=
  lcRun_q (ρ := [some (.p (C)), none]) (fun x : D × Int => x.1) (fun x : D × Int => D.int x.2) fun x hx => by
    obtain ⟨b, e⟩ := h x hx
    obtain ⟨x1, x2⟩ := x
    have e : sem [.p x1] = some (.ok (.p (.int x2)), b) := e
    simp! [e1__law_deep, e]
theorem nE_A {i : Nat} (h : i < 3) : eqD (.str (wA i)) (.str "end") = some false := by
  rcases (show i = 0 ∨ i = 1 ∨ i = 2 by omega) with rfl | rfl | rfl <;> kernel_rfl
theorem nE_G {i : Nat} (h : i < 3) : eqD (.str (wG i)) (.str "end") = some false := by
  rcases (show i = 0 ∨ i = 1 ∨ i = 2 by omega) with rfl | rfl | rfl <;> kernel_rfl
theorem law_deep : ∀ (p : Pl) (k : Nat), p.wf → p.dep < k → ∃ b, lv__law_deep k [.p p.d] = some (.ok (.p (.int p.dep)), b)
  | p, 0, hw, hk => absurd hk (Nat.not_lt_zero _)
  | .e, k + 1, hw, hk => dp_e _
  | .one i p, k + 1, hw, hk => by
    rw [dep1] at hk
    have ih := law_deep p k hw.2 (by omega)
    have e : ((Pl.one i p).dep : Int) = 1 + (p.dep : Int) := by rw [dep1]; omega
    rw [e]
    have q := dp_q (lv__law_deep k) (Pl.one i p).d [(p.d, (p.dep : Int))] fun x hx => by
      rw [List.mem_singleton.mp hx]; exact ih
    exact dp_n (lv__law_deep k) (wA i) [p.d] (p.dep : Int) _ [] (nE_A hw.1) [p.d] cut2 (by show 1 ≤ 1000; decide) q rfl
  | .two i p r, k + 1, hw, hk => by
    rw [dep2] at hk
    have ih := law_deep p k hw.2.1 (by omega)
    have ih2 := law_deep r k hw.2.2 (by omega)
    have e : ((Pl.two i p r).dep : Int) = 1 + maxL (p.dep : Int) [(r.dep : Int)] := by
      rw [dep2]
      show ((max (1 + p.dep) (1 + r.dep) : Nat) : Int) = 1 + (if (r.dep : Int) > (p.dep : Int) then (r.dep : Int) else (p.dep : Int))
      split <;> omega
    rw [e]
    have q := dp_q (lv__law_deep k) (Pl.two i p r).d [(p.d, (p.dep : Int)), (r.d, (r.dep : Int))] fun x hx => by
      rcases List.mem_cons.mp hx with rfl | hx
      · exact ih
      · rw [List.mem_singleton.mp hx]; exact ih2
    exact dp_n (lv__law_deep k) (wG i) [p.d, r.d] (p.dep : Int) _ [(r.dep : Int)] (nE_G hw.1) [p.d, r.d] cut3 (by show 2 ≤ 1000; decide) q rfl
theorem sh_len (a b : Str) : (a ++ b).length = a.length + b.length := PySem.Str.length_append a b
theorem lA {i : Nat} (h : i < 3) : (reprText (wA i)).length ≤ 7 ∧ PyData.strOk (reprText (wA i)) = true ∧ (D.str (wA i)).dep = 0 := by
  rcases (show i = 0 ∨ i = 1 ∨ i = 2 by omega) with rfl | rfl | rfl <;> decide +kernel
theorem lG {i : Nat} (h : i < 3) : (reprText (wG i)).length ≤ 6 ∧ PyData.strOk (reprText (wG i)) = true ∧ (D.str (wG i)).dep = 0 := by
  rcases (show i = 0 ∨ i = 1 ∨ i = 2 by omega) with rfl | rfl | rfl <;> decide +kernel
structure ShP (p : Pl) : Prop where
  l : p.d.py.shown.length + 12 ≤ 20 * 2 ^ p.dep
  s : PyData.strOk p.d.py.shown = true
  d : p.d.dep ≤ p.dep + 1
  h : p.d.py.showable = true
  n : p.d.py.hasDict = false
  p : p.d.py.depth ≤ p.dep + 1
theorem shP : ∀ (p : Pl), p.wf → ShP p
  | .e, _ => ⟨by decide +kernel, by decide +kernel, by decide +kernel, by decide +kernel, by decide +kernel, by decide +kernel⟩
  | .one i p, hw => by
    obtain ⟨l, s, d, h, n, dp⟩ := shP p hw.2
    obtain ⟨a1, a2, a3⟩ := lA hw.1
    have e : (Pl.one i p).d.py.shown = ("(" : Str) ++ (reprText (wA i) ++ ", " ++ p.d.py.shown) ++ (")" : Str) := rfl
    have pw : 2 ^ (Pl.one i p).dep = 2 * 2 ^ p.dep := by
      show 2 ^ (1 + p.dep) = _
      rw [Nat.add_comm, Nat.pow_succ]; omega
    refine ⟨?_, ?_, ?_, ?_, ?_, ?_⟩
    · rw [e, pw, sh_len, sh_len, sh_len, sh_len]
      have : (("(" : Str)).length = 1 ∧ ((")" : Str)).length = 1 ∧ ((", " : Str)).length = 2 := by decide +kernel
      obtain ⟨x1, x2, x3⟩ := this
      rw [x1, x2, x3]
      have : 1 ≤ 2 ^ p.dep := Nat.one_le_two_pow
      omega
    · rw [e]
      exact strOk_app (strOk_app strOk_lit (strOk_app (strOk_app a2 strOk_lit) s)) strOk_lit
    · show max (D.str (wA i)).dep (max p.d.dep 0) + 1 ≤ 1 + p.dep + 1
      rw [a3]; omega
    · show (true && (p.d.py.showable && true)) = true
      rw [h]; rfl
    · show (false || (p.d.py.hasDict || false)) = false
      rw [n]; rfl
    · show max 0 (max p.d.py.depth 0) + 1 ≤ 1 + p.dep + 1
      omega
  | .two i p r, hw => by
    obtain ⟨l, s, d, h, n, dp⟩ := shP p hw.2.1
    obtain ⟨l', s', d', h', n', dp'⟩ := shP r hw.2.2
    obtain ⟨a1, a2, a3⟩ := lG hw.1
    have e : (Pl.two i p r).d.py.shown = ("(" : Str) ++ (reprText (wG i) ++ ", " ++ (p.d.py.shown ++ ", " ++ r.d.py.shown)) ++ (")" : Str) := rfl
    have pw : 2 ^ (Pl.two i p r).dep = 2 * 2 ^ (max p.dep r.dep) := by
      rw [dep2, show max (1 + p.dep) (1 + r.dep) = max p.dep r.dep + 1 by omega, Nat.pow_succ]; omega
    have p1 : 2 ^ p.dep ≤ 2 ^ (max p.dep r.dep) := Nat.pow_le_pow_right (by decide) (Nat.le_max_left _ _)
    have p2 : 2 ^ r.dep ≤ 2 ^ (max p.dep r.dep) := Nat.pow_le_pow_right (by decide) (Nat.le_max_right _ _)
    refine ⟨?_, ?_, ?_, ?_, ?_, ?_⟩
    · rw [e, pw, sh_len, sh_len, sh_len, sh_len, sh_len, sh_len]
      have : (("(" : Str)).length = 1 ∧ ((")" : Str)).length = 1 ∧ ((", " : Str)).length = 2 := by decide +kernel
      obtain ⟨x1, x2, x3⟩ := this
      rw [x1, x2, x3]
      omega
    · rw [e]
      exact strOk_app (strOk_app strOk_lit (strOk_app (strOk_app a2 strOk_lit) (strOk_app (strOk_app s strOk_lit) s'))) strOk_lit
    · show max (D.str (wG i)).dep (max p.d.dep (max r.d.dep 0)) + 1 ≤ max (1 + p.dep) (1 + r.dep) + 1
      rw [a3]; omega
    · show (true && (p.d.py.showable && (r.d.py.showable && true))) = true
      rw [h, h']; rfl
    · show (false || (p.d.py.hasDict || (r.d.py.hasDict || false))) = false
      rw [n, n']; rfl
    · show max 0 (max p.d.py.depth (max r.d.py.depth 0)) + 1 ≤ max (1 + p.dep) (1 + r.dep) + 1
      omega
theorem repr_ok (p : Pl) (hw : p.wf) (hd : p.dep ≤ 18) : evRepr [.p p.d] = some (.p (.str p.d.py.shown)) ∧ eqD (.str p.d.py.shown) (.str p.d.py.shown) = some true := by
  obtain ⟨l, s, d, h, n, dp⟩ := shP p hw
  have p2 : 2 ^ p.dep ≤ 2 ^ 18 := Nat.pow_le_pow_right (by decide) hd
  have hz : p.d.py.shown.length ≤ sizeLine := by
    rw [sizeLine_eq]
    have : 20 * 2 ^ 18 = 5242880 := by decide
    omega
  have tp : isTupD p.d = true := by cases p <;> rfl
  refine ⟨?_, ?_⟩
  · rw [evRepr_d, if_pos]
    unfold reprOk
    rw [tp, h, n, decide_eq_true hz, decide_eq_true (show p.d.dep < 100 by omega), decide_eq_true (show p.d.py.depth ≤ 100 by omega)]
    rfl
  · rw [eqD_str s s]
    simp
theorem is_ok (v : Int) : ∃ b, sem__law_is [.p (.int v), .p (.int v)] = some (.ok (.p (.bl true)), b) := by
  have h2 : isiO "bool" (.int v) = some false := by kernel_rfl
  have h4 : isiO "int" (.int v) = some true := by kernel_rfl
  have q : (v == v) = true := beq_self_eq_true v
  refine Ret.sem rfl ?_
  simp! [ir__law_is, h2, h4, q]
theorem tn1 (S P Z : D) (k : Nat) (hk : k ≤ 6) : fSt (.one 4) (runB 4000 b1_law_v60) (.int (0 + (k : Int))) [some (.p (S)), some (.p (P)), some (.p (Z)), some (.p (.int ((Mn k : Int)))), none, none] = some (.nx, [some (.p (S)), some (.p (P)), some (.p (Z)), some (.p (.int ((Mn (k + 1) : Int)))), none, none]) := by
  rcases (show k = 0 ∨ k = 1 ∨ k = 2 ∨ k = 3 ∨ k = 4 ∨ k = 5 ∨ k = 6 by omega) with rfl | rfl | rfl | rfl | rfl | rfl | rfl <;> kernel_rfl
theorem tn2 (S Q Z P : D) (v : Int) (b1 b2 b3 : List (Option O)) (e1 : sem_plan_depth [.p P] = some (.ok (.p (.int v)), b1)) (e2 : sem__law_deep [.p P] = some (.ok (.p (.int v)), b2)) (e3 : sem__law_is [.p (.int v), .p (.int v)] = some (.ok (.p (.bl true)), b3)) : fSt (.one 5) (runB 4000 b2_law_v60) P [some (.p (S)), some (.p (Q)), some (.p (Z)), none, none, none] = some (.nx, [some (.p (S)), some (.p (Q)), some (.p (Z)), none, none, none]) := by
  simp! [b2_law_v60, e1, e2, e3]
theorem law_end (L sl X T : List D) (Z : Str) (f room v : Int) (n : Nat) (U : List D) (b0 : List (Option O)) (x y : Option O) (e0 : sem__law_cell_at [.p (.lst L), .p (.int 0)] = some (.ok (.p (.int f)), b0)) (hr : L2.atI [D.int 18, .int 6, .int 3, .int 2] (f / 7 % 4) = some (.int room)) (e1 : sem__law_plan [.p (.lst L), .lst [.int 0, .int 28], .p (.int room)] = some (.ok (.p (.tup X)), [x, some (.lst sl), y])) (hz : evRepr [.p (.tup X)] = some (.p (.str Z))) (hq : eqD (.str Z) (.str Z) = some true)
    (hc : DV.cutD X (some 1) none = T) (hT : T.length ≤ 1000) (hn : itR1 [.p (.int (1 + f % 7))] = some U) (k1 : forRun (.one 4) (runB 4000 b1_law_v60) U [some (.p (.lst L)), some (.p (.tup X)), some (.p (.str Z)), some (.p (.int (1))), none, none] = some (.nx, [some (.p (.lst L)), some (.p (.tup X)), some (.p (.str Z)), some (.p (.int (v))), none, none]))
    (k2 : forRun (.one 5) (runB 4000 b2_law_v60) (.tup X :: T) [some (.p (.lst L)), some (.p (.tup X)), some (.p (.str Z)), none, none, none] = some (.nx, [some (.p (.lst L)), some (.p (.tup X)), some (.p (.str Z)), none, none, none])) : Ret (sem_law_v60 [.p (.lst L)]) (.ok (.p (.bl true))) := by
  have hT2 : 1 + T.length ≤ sizeLine := Nat.le_trans (Nat.add_le_add_left hT 1) (by decide)
  have hT3 : T.length ≤ sizeLine := Nat.le_trans hT (by decide)
  have hT4 : T.length + 1 ≤ sizeLine := Nat.le_trans (Nat.add_le_add_right hT 1) (by decide)
  refine Ret.sem rfl ?_
  simp! [ir_law_v60, giveBack, e0, hr, e1, hz, hq, hc, hT2, hT3, hT4, hn, k1, k2]
theorem plain : ∀ ns : List Int, ns.length ≤ 63 → (∀ z ∈ ns, Builtin.Int.intBits z ≤ 1048576) → ∃ bs, sem_law_v60 [.p (.lst (ns.map .int))] = some (.ok (.p (.bl true)), bs) := fun ns hn _ => by
  obtain ⟨b0, e0⟩ := LP.cell_at ns 0 (by decide)
  generalize LP.cellV ns 0 = f at e0
  obtain ⟨room, hr, rr⟩ : ∃ room : Nat, L2.atI [D.int 18, .int 6, .int 3, .int 2] (f / 7 % 4) = some (.int (room : Int)) ∧ room ≤ 18 := by
    rcases (show f / 7 % 4 = 0 ∨ f / 7 % 4 = 1 ∨ f / 7 % 4 = 2 ∨ f / 7 % 4 = 3 by omega) with h | h | h | h
    · exact ⟨18, by rw [h]; rfl, by decide⟩
    · exact ⟨6, by rw [h]; rfl, by decide⟩
    · exact ⟨3, by rw [h]; rfl, by decide⟩
    · exact ⟨2, by rw [h]; rfl, by decide⟩
  obtain ⟨p, c', v', pw, pd, c0, w0, lt, e1⟩ := law_plan_w ns room 30 0 28 (by omega) (by decide) (by decide) (by decide)
  obtain ⟨hz, hq⟩ := repr_ok p pw (by omega)
  obtain ⟨n, en⟩ : ∃ n : Nat, 1 + f % 7 = (n : Int) := Int.eq_ofNat_of_zero_le (by omega)
  have n7 : n ≤ 7 := by omega
  have turn : ∀ (Q : D) (r : Pl), r.wf → r.dep ≤ 18 → fSt (.one 5) (runB 4000 b2_law_v60) r.d [some (.p (.lst (ns.map .int))), some (.p (Q)), some (.p (.str p.d.py.shown)), none, none, none] = some (.nx, [some (.p (.lst (ns.map .int))), some (.p (Q)), some (.p (.str p.d.py.shown)), none, none, none]) := fun Q r rw rd => by
    obtain ⟨b1, q1⟩ := plan_depth r 30 (by omega)
    obtain ⟨b2, q2⟩ := law_deep r 30 rw (by omega)
    obtain ⟨b3, q3⟩ := is_ok (r.dep : Int)
    exact tn2 _ _ _ _ _ b1 b2 b3 q1 q2 q3
  have k1 : ∀ Q : D, forRun (.one 4) (runB 4000 b1_law_v60) (rngD 0 n) [some (.p (.lst (ns.map .int))), some (.p (Q)), some (.p (.str p.d.py.shown)), some (.p (.int (1))), none, none] = some (.nx, [some (.p (.lst (ns.map .int))), some (.p (Q)), some (.p (.str p.d.py.shown)), some (.p (.int ((Mn n : Int)))), none, none]) := fun Q =>
    forRun_r (fun k => [some (.p (.lst (ns.map .int))), some (.p (Q)), some (.p (.str p.d.py.shown)), some (.p (.int ((Mn k : Int)))), none, none]) rfl rfl fun k hk => tn1 _ _ _ k (by omega)
  have hU : itR1 [.p (.int (1 + f % 7))] = some (rngD 0 n) := by
    rw [en]
    exact rng1_nat (by omega)
  cases p with
  | e => exact law_end _ _ [.str "end"] [] _ f room _ n _ b0 _ _ e0 hr e1 hz hq cut1 (Nat.zero_le _) hU (k1 _) ((forRun_cons (turn (.tup [.str "end"]) .e pw (Nat.zero_le _))).trans rfl)
  | one i q =>
    rw [dep1] at pd
    have t1 := turn (.tup [.str (wA i), q.d]) (.one i q) pw (by rw [dep1]; omega)
    have t2 := turn (.tup [.str (wA i), q.d]) q pw.2 (by omega)
    exact law_end _ _ [.str (wA i), q.d] [q.d] _ f room _ n _ b0 _ _ e0 hr e1 hz hq cut2 (by show 1 ≤ 1000; decide) hU (k1 _) ((forRun_cons t1).trans ((forRun_cons t2).trans rfl))
  | two i q r =>
    rw [dep2] at pd
    have t1 := turn (.tup [.str (wG i), q.d, r.d]) (.two i q r) pw (by rw [dep2]; omega)
    have t2 := turn (.tup [.str (wG i), q.d, r.d]) q pw.2.1 (by omega)
    have t3 := turn (.tup [.str (wG i), q.d, r.d]) r pw.2.2 (by omega)
    exact law_end _ _ [.str (wG i), q.d, r.d] [q.d, r.d] _ f room _ n _ b0 _ _ e0 hr e1 hz hq cut3 (by show 2 ≤ 1000; decide) hU (k1 _) ((forRun_cons t1).trans ((forRun_cons t2).trans ((forRun_cons t3).trans rfl)))
end K61
set_option maxHeartbeats 0
open PySem PySem.W PySem.Calls PyProof.Rows
theorem PySem.Challenge.cw_delve_k61_depths_and_counts_of_plans_holds : PySem.Challenge.rw_delve_k61_depths_and_counts_of_plans.Holds := by
  w_on; o_law
  refine HandSHeadRun.head_any (r := K61.R)
    (q := view K61.R.prog [11])
    (H := K61.hk) (ob := K61.ob) (M := 8000) (loose := K61.lo)
    (d := HandSHeadRun.topDef K61.R.prog 11) (kwd := [])
    K61.ob_eq
    (by kernel_rfl) (fun s => by kernel_rfl) K61.run
    (by kernel_rfl) (by kernel_rfl) (by kernel_rfl) (by rfl)
    (by first | assumption | decide +kernel) (by decide +kernel)
    ⟨rfl, rfl, rfl, rfl, rfl, by decide +kernel⟩ ?hw ?hc
  case hw => w_witness2
  case hc =>
    refine DV.walk_G (l := PySem.Challenge.rw_delve_k61_depths_and_counts_of_plans) (n := 63) (k := 34)
      (x := "_law_script") (sem := IR.sem_law_v60) rfl (by decide)
      (by kernel_rfl) ⟨rfl, by decide, by decide⟩ ?F K61.plain
    intro w mg fa h Y G hmg0
    obtain ⟨K, KX, c⟩ := Y
    have E := K61.env_of KX G c
    have hmg : mg ("law" : PySem.Str) = some (.ref fa) := by
      have e : (HandSHeadRun.topDef K61.R.prog 11).name = ("law" : PySem.Str) := by kernel_rfl
      rw [← e]
      exact hmg0
    have e := hmg.symm.trans E.g_law
    cases e
    obtain ⟨fd, F⟩ := E.d_law
    have b := L2.FunD.bindsA (ps := ["_law_script"]) F fun _ _ _ _ _ _ us hl => match us, hl with | [_], _ => rfl
    exact ⟨K, fd, KX, fun s v => b s [v] rfl, fun base => K61.ok_law E F⟩
