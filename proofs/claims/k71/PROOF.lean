import PyProof.Rows.All
import HandS.ForMost
import HandS.Flow
import HandS.TupAny
import HandS.TupLe
import HandS.TupMul
import HandS.Zip
import HandS.Walk
import HandS.IsInst
import HandS.Deep
import HandS.Style
import KE.GoesEnum
import HandS.AnyAll
import HandS.GenList
import HandS.EndTab
import KE.KNest
import PySem.Challenge.RW_slopeward_k71_whole_walks_that_calls_hea
set_option autoImplicit false
set_option Elab.async false
set_option linter.all false
set_option maxRecDepth 100000
set_option maxHeartbeats 4000000
/-! SM: data semantics over the hand layer: slots hold data (PyData), shared or owned -/
namespace SM
open PySem PySem.Spec PyProof.Rows L2

/-! ### heaps -/
structure Ext (H H' : Hp) : Prop where
  keep : ∀ a o, H a = some o → (∀ ps, o ≠ .tbl ps) → H' a = some o
  tab : ∀ a ps, H a = some (.tbl ps) → ∃ ps', H' a = some (.tbl ps') ∧ (TriplesOk ps.toList → TriplesOk ps'.toList)
theorem Ext.refl (H : Hp) : Ext H H := ⟨fun _ _ h _ => h, fun _ ps h => ⟨ps, h, id⟩⟩
theorem Ext.trans {H H1 H2 : Hp} (a : Ext H H1) (b : Ext H1 H2) : Ext H H2 where
  keep := fun c o h n => b.keep c o (a.keep c o h n) n
  tab := fun c ps h => by
    obtain ⟨p1, e1, t1⟩ := a.tab c ps h
    obtain ⟨p2, e2, t2⟩ := b.tab c p1 e1
    exact ⟨p2, e2, t2 ∘ t1⟩
theorem Ext.back {H H' : Hp} {a : Addr} (e : Ext H H') (h : H' a = none) : H a = none := by
  cases q : H a with
  | none => rfl
  | some o =>
    cases o with
    | tbl ps =>
      obtain ⟨p1, e1, _⟩ := e.tab a ps q
      rw [h] at e1; cases e1
    | _ =>
      have := e.keep a _ q (fun ps z => by cases z)
      rw [h] at this; cases this
theorem Ext.new {H : Hp} {p : Addr} {o : HO} (h : H p = none) : Ext H (upd H p o) where
  keep := fun a u e _ => by rw [upd_ne (ne_of_none e h)]; exact e
  tab := fun a ps e => ⟨ps, by rw [upd_ne (ne_of_none e h)]; exact e, id⟩
/-- an object that H does not know may change -/
theorem Ext.mut {H H' : Hp} {p : Addr} {o : HO} (e : Ext H H') (h : H p = none) : Ext H (upd H' p o) where
  keep := fun a u q n => by rw [upd_ne (ne_of_none q h)]; exact e.keep a u q n
  tab := fun a ps q => by rw [upd_ne (ne_of_none q h)]; exact e.tab a ps q

def Le (F F' : Hp) : Prop := ∀ a o, F a = some o → F' a = some o
theorem Le.refl (F : Hp) : Le F F := fun _ _ h => h
theorem Le.trans {F F1 F2 : Hp} (a : Le F F1) (b : Le F1 F2) : Le F F2 := fun c o h => b c o (a c o h)
theorem Le.new {F : Hp} {p : Addr} {o : HO} (h : F p = none) : Le F (upd F p o) := fun a u e => by rw [upd_ne (ne_of_none e h)]; exact e
theorem Le.rd {F F' : Hp} {a : Addr} {u : HO} (e : Le F F') (h : Rd F a u) : Rd F' a u := by
  rcases h with h | ⟨o, h⟩
  · exact .inl (e a _ h)
  · exact .inr ⟨o, e a _ h⟩
theorem Le.sqL {K : PySem.W.Frag} {F F' : Hp} {a : Addr} {xs : List V} (e : Le F F') (h : SqL K F a xs) : SqL K F' a xs := by
  rcases h with h | h
  · exact .inl (e.rd h)
  · exact .inr h
theorem Le.sqT {K : PySem.W.Frag} {F F' : Hp} {a : Addr} {xs : List V} (e : Le F F') (h : SqT K F a xs) : SqT K F' a xs := by
  rcases h with h | h
  · exact .inl (e.rd h)
  · exact .inr h
end SM
namespace L2
open PySem PySem.Spec PyProof.Rows
mutual
theorem Dp.zmono {K : PySem.W.Frag} {F F' : Hp} (e : SM.Le F F') : ∀ {v : V} {d : PyData}, Dp K F v d → Dp K F' v d
  | _, _, .non => .non
  | _, _, .bl b => .bl b
  | _, _, .int i => .int i
  | _, _, .str x => .str x
  | _, _, .lst h a => .lst (e.sqL h) (DpAll.zmono e a)
  | _, _, .tup h a => .tup (e.sqT h) (DpAll.zmono e a)
theorem DpAll.zmono {K : PySem.W.Frag} {F F' : Hp} (e : SM.Le F F') : ∀ {vs : List V} {ds : List PyData}, DpAll K F vs ds → DpAll K F' vs ds
  | _, _, .nil => .nil
  | _, _, .cons h a => .cons (Dp.zmono e h) (DpAll.zmono e a)
end
theorem DpAll.zlen {K : PySem.W.Frag} {F : Hp} : ∀ {vs : List V} {ds : List PyData}, DpAll K F vs ds → vs.length = ds.length
  | _, _, .nil => rfl
  | _, _, .cons _ a => congrArg (· + 1) a.zlen
theorem DpAll.zget {K : PySem.W.Frag} {F : Hp} : ∀ {vs : List V} {ds : List PyData} {i : Nat} {d : PyData}, DpAll K F vs ds → ds[i]? = some d → ∃ v, vs[i]? = some v ∧ Dp K F v d
  | _, _, _, _, .nil, e => by simp at e
  | _, _, 0, _, .cons h _, e => by simp at e; subst e; exact ⟨_, rfl, h⟩
  | _, _, i + 1, d, .cons _ a, e => by
    obtain ⟨v, h1, h2⟩ := DpAll.zget (i := i) (d := d) a (by simpa using e)
    exact ⟨v, by simpa using h1, h2⟩
theorem DpAll.zget' {K : PySem.W.Frag} {F : Hp} : ∀ {vs : List V} {ds : List PyData} {i : Nat} {v : V}, DpAll K F vs ds → vs[i]? = some v → ∃ d, ds[i]? = some d ∧ Dp K F v d
  | _, _, _, _, .nil, e => by simp at e
  | _, _, 0, _, .cons h _, e => by simp at e; subst e; exact ⟨_, rfl, h⟩
  | _, _, i + 1, d, .cons _ a, e => by
    obtain ⟨v, h1, h2⟩ := DpAll.zget' (i := i) (v := d) a (by simpa using e)
    exact ⟨v, by simpa using h1, h2⟩
theorem DpAll.zapp {K : PySem.W.Frag} {F : Hp} : ∀ {vs us : List V} {ds es : List PyData}, DpAll K F vs ds → DpAll K F us es → DpAll K F (vs ++ us) (ds ++ es)
  | _, _, _, _, .nil, b => b
  | _, _, _, _, .cons h a, b => .cons h (a.zapp b)
theorem DpAll.ztake {K : PySem.W.Frag} {F : Hp} : ∀ {vs : List V} {ds : List PyData} (n : Nat), DpAll K F vs ds → DpAll K F (vs.take n) (ds.take n)
  | _, _, 0, _ => .nil
  | _, _, _ + 1, .nil => .nil
  | _, _, n + 1, .cons h a => .cons h (a.ztake n)
theorem DpAll.zdrop {K : PySem.W.Frag} {F : Hp} : ∀ {vs : List V} {ds : List PyData} (n : Nat), DpAll K F vs ds → DpAll K F (vs.drop n) (ds.drop n)
  | _, _, 0, a => a
  | _, _, _ + 1, .nil => .nil
  | _, _, n + 1, .cons _ a => a.zdrop n
theorem DpAll.zset {K : PySem.W.Frag} {F : Hp} {v : V} {d : PyData} (h : Dp K F v d) : ∀ {vs : List V} {ds : List PyData} (n : Nat), DpAll K F vs ds → DpAll K F (vs.set n v) (ds.set n d)
  | _, _, _, .nil => .nil
  | _, _, 0, .cons _ a => .cons h a
  | _, _, n + 1, .cons g a => .cons g (DpAll.zset h n a)
theorem DpAll.zrev {K : PySem.W.Frag} {F : Hp} : ∀ {vs : List V} {ds : List PyData}, DpAll K F vs ds → DpAll K F vs.reverse ds.reverse
  | _, _, .nil => .nil
  | _, _, .cons h a => by rw [List.reverse_cons, List.reverse_cons]; exact (a.zrev).zapp (.cons h .nil)

end L2
namespace SM
open PySem PySem.Spec PyProof.Rows L2
/-- the frozen part -/
structure HF (H F : Hp) : Prop where
  sub : ∀ a o, F a = some o → H a = some o
  ntb : ∀ a ps, F a ≠ some (.tbl ps)
/-- from (H, F) to (H', F') in an expression -/
structure Ex2 (H F H' F' : Hp) : Prop where
  h : Ext H H'
  f : Le F F'
  n : ∀ a o, F' a = some o → F a = none → H a = none
theorem Ex2.refl (H F : Hp) : Ex2 H F H F := ⟨Ext.refl H, Le.refl F, fun a o h n => by rw [n] at h; cases h⟩
theorem Ex2.trans {H F H1 F1 H2 F2 : Hp} (a : Ex2 H F H1 F1) (b : Ex2 H1 F1 H2 F2) : Ex2 H F H2 F2 where
  h := a.h.trans b.h
  f := a.f.trans b.f
  n := fun c o h n => by
    cases q : F1 c with
    | none => exact a.h.back (b.n c o h q)
    | some u => exact a.n c u q n

/-! ### slots -/
inductive Sl where
  | un | sh (d : PyData) | ow (d : PyData)
abbrev Gm := List Sl
/-- the static part: the program's, the def's (N, sc, fn), the room k, the code tables; B, F0: the heaps at the def's entry -/
structure Stat where
  P : Program
  w : World
  K : PySem.W.Frag
  mg : Str → Option Value
  base : Heap
  N : List Str
  sc : Scope
  fn : Str → Bool
  k : Nat
  tabs : List Addr
  code : Value
  B : Hp
  F0 : Hp
structure IsCx (S : Stat) (X : Cx) : Prop where
  prog : X.prog = S.P
  w : X.w = S.w
  K : X.K = S.K
  mg : X.mg = S.mg
  base : X.base = S.base
  N : X.N = S.N
  sc : X.env.scope = S.sc
  fn : X.fn = S.fn
  room : Room S.k X.A
  calm : X.calm = true
  code : X.env.code = S.code
  xe : X.xe = fun _ _ => False
def TabOk (H : Hp) (P : Addr) : Prop := ∃ ps : Array Value, H P = some (.tbl ps) ∧ TriplesOk ps.toList
theorem TabOk.ext {H H' : Hp} {P : Addr} (e : Ext H H') (h : TabOk H P) : TabOk H' P := by
  obtain ⟨ps, h1, h2⟩ := h
  obtain ⟨ps', h3, h4⟩ := e.tab P ps h1
  exact ⟨ps', h3, h4 h2⟩
structure AtH (S : Stat) (H F : Hp) : Prop where
  ext : Ext S.B H
  hf : HF H F
  f0 : Le S.F0 F
  new : ∀ a o, F a = some o → S.F0 a = none → S.B a = none
  tabs : ∀ P ∈ S.tabs, TabOk H P
/-- an owned thing at a -/
def Own (S : Stat) (H F : Hp) (a : Addr) : PyData → Prop
  | .list ds => S.B a = none ∧ F a = none ∧ ∃ vs, H a = some (.lst vs) ∧ DpAll S.K F vs ds
  | _ => False
structure At (S : Stat) (γ : Gm) (σ : L2.St) (H F : Hp) : Prop extends AtH S H F where
  len : σ.length = γ.length
  sh : ∀ (i : Nat) (d : PyData), γ[i]? = some (.sh d) → ∃ v, σ[i]? = some (some v) ∧ Dp S.K F v d
  ow : ∀ (i : Nat) (d : PyData), γ[i]? = some (.ow d) → ∃ a, σ[i]? = some (some (.ref a)) ∧ Own S H F a d
  apart : ∀ (i j : Nat) (d e : PyData) (a : Addr), γ[i]? = some (.ow d) → γ[j]? = some (.ow e) → σ[i]? = some (some (.ref a)) → σ[j]? = some (some (.ref a)) → i = j
theorem Own.fnone {S : Stat} {H F : Hp} {a : Addr} {d : PyData} (h : Own S H F a d) : F a = none := by
  cases d <;> first | exact h.2.1 | exact h.elim
theorem Own.bnone {S : Stat} {H F : Hp} {a : Addr} {d : PyData} (h : Own S H F a d) : S.B a = none := by
  cases d <;> first | exact h.1 | exact h.elim
theorem Own.there {S : Stat} {H F : Hp} {a : Addr} {d : PyData} (h : Own S H F a d) : ∃ o, H a = some o ∧ ∀ ps, o ≠ .tbl ps := by
  cases d <;> first | (obtain ⟨_, _, vs, e, _⟩ := h; exact ⟨_, e, fun ps z => by cases z⟩) | exact h.elim
theorem Own.keep {S : Stat} {H F H' F' : Hp} {a : Addr} {d : PyData} (h : Own S H F a d) (e : ∀ o, H a = some o → H' a = some o) (f : Le F F') (n : F' a = none) : Own S H' F' a d := by
  cases d with
  | list ds => obtain ⟨h1, _, vs, h3, h4⟩ := h; exact ⟨h1, n, vs, e _ h3, h4.zmono f⟩
  | _ => exact h.elim
theorem AtH.ex {S : Stat} {H F H' F' : Hp} (h : AtH S H F) (x : Ex2 H F H' F') (hf : HF H' F') : AtH S H' F' where
  ext := h.ext.trans x.h
  hf := hf
  f0 := h.f0.trans x.f
  new := fun a o e n => by
    cases q : F a with
    | some u => exact h.new a u q n
    | none => exact h.ext.back (x.n a o e q)
  tabs := fun P hP => (h.tabs P hP).ext x.h
theorem At.ex {S : Stat} {γ : Gm} {σ : L2.St} {H F H' F' : Hp} (h : At S γ σ H F) (x : Ex2 H F H' F') (hf : HF H' F') : At S γ σ H' F' where
  toAtH := h.toAtH.ex x hf
  len := h.len
  sh := fun i d e => by
    obtain ⟨v, h1, h2⟩ := h.sh i d e
    exact ⟨v, h1, h2.zmono x.f⟩
  ow := fun i d e => by
    obtain ⟨a, h1, h2⟩ := h.ow i d e
    obtain ⟨o, ho, nt⟩ := h2.there
    refine ⟨a, h1, h2.keep (fun o' e' => ?_) x.f ?_⟩
    · rw [ho] at e'; cases e'; exact x.h.keep a o ho nt
    · cases q : F' a with
      | none => rfl
      | some u => have := x.n a u q h2.fnone; rw [ho] at this; cases this
  apart := h.apart
theorem HF.new {H F : Hp} {p : Addr} {o : HO} (h : HF H F) (hp : H p = none) (nt : ∀ ps, o ≠ .tbl ps) : HF (upd H p o) (upd F p o) where
  sub := fun a u e => by
    by_cases ha : a = p
    · subst ha; rw [upd_same] at e; cases e; exact upd_same
    · rw [upd_ne ha] at e; rw [upd_ne ha]; exact h.sub a u e
  ntb := fun a ps e => by
    by_cases ha : a = p
    · subst ha; rw [upd_same] at e; cases e; exact nt ps rfl
    · rw [upd_ne ha] at e; exact h.ntb a ps e
theorem HF.newH {H F : Hp} {p : Addr} {o : HO} (h : HF H F) (hp : H p = none) : HF (upd H p o) F where
  sub := fun a u e => by rw [upd_ne (ne_of_none (h.sub a u e) hp)]; exact h.sub a u e
  ntb := h.ntb
theorem HF.fnone {H F : Hp} {p : Addr} (h : HF H F) (hp : H p = none) : F p = none := by
  cases q : F p with
  | none => rfl
  | some o => rw [h.sub p o q] at hp; cases hp
/-- a new shared object -/
theorem ex_new {H F : Hp} {p : Addr} {o : HO} (h : HF H F) (hp : H p = none) : Ex2 H F (upd H p o) (upd F p o) where
  h := Ext.new hp
  f := Le.new (h.fnone hp)
  n := fun a u e n => by
    by_cases ha : a = p
    · subst ha; exact hp
    · rw [upd_ne ha, n] at e; cases e
/-- a new object that is not shared yet -/
theorem ex_newH {H F : Hp} {p : Addr} {o : HO} (hp : H p = none) : Ex2 H F (upd H p o) F where
  h := Ext.new hp
  f := Le.refl F
  n := fun a u e n => by rw [n] at e; cases e
/-- what stands in H is shared from now on -/
theorem HF.share {H F : Hp} {p : Addr} {o : HO} (h : HF H F) (hp : H p = some o) (nt : ∀ ps, o ≠ .tbl ps) : HF H (upd F p o) where
  sub := fun a u e => by
    by_cases ha : a = p
    · subst ha; rw [upd_same] at e; cases e; exact hp
    · rw [upd_ne ha] at e; exact h.sub a u e
  ntb := fun a ps e => by
    by_cases ha : a = p
    · subst ha; rw [upd_same] at e; cases e; exact nt ps rfl
    · rw [upd_ne ha] at e; exact h.ntb a ps e

/-! ### what is wanted of a piece of code, whatever its context -/
def wE (S : Stat) (e : Expr) : TE := fun σ H Q => ∀ X, IsCx S X → ∀ pins s, Inv X pins σ H s → wpAny (model X.prog X.w) X.A (eval e X.env) (EP X pins σ Q) X.xe s
def wT (S : Stat) (e : Expr) : TT := fun σ H Q => ∀ X, IsCx S X → ∀ pins s, Inv X pins σ H s → wpAny (model X.prog X.w) X.A (isTrue e X.env (eval e X.env)) (TP X pins σ Q) X.xe s
def wW (S : Stat) (e : Expr) : TT := fun σ H Q => ∀ X, IsCx S X → ∀ wh pins s, Inv X pins σ H s → wpAny (model X.prog X.w) X.A (isTrue e X.env wh) (TP X pins σ Q) X.xe s
def wA (S : Stat) (es : List Expr) : TA := fun σ H Q => ∀ X, IsCx S X → ∀ pos pins s, Inv X pins σ H s → wpAny (model X.prog X.w) X.A (spliced (backTo pos (starEach es X.env))) (AP X pins σ Q) X.xe s
def wS (S : Stat) (ss : List Stmt) : TS := fun D σ H => ∀ X, IsCx S X → ∀ pins s, Inv X pins σ H s → wpAny (model X.prog X.w) X.A (execs ss X.env) (SP X pins D) X.xe s
def wS1 (S : Stat) (st : Stmt) : TS := fun D σ H => ∀ X, IsCx S X → ∀ pins s, Inv X pins σ H s → wpAny (model X.prog X.w) X.A (exec st X.env) (SP X pins D) X.xe s
def wG (S : Stat) (tg : Expr) : TG := fun v σ H Q => ∀ X, IsCx S X → ∀ pins s u, Inv X pins σ H s → RelV v u → wpAny (model X.prog X.w) X.A (assign tg X.env u) (fun _ s' => ∃ σ' H', Inv X pins σ' H' s' ∧ Q σ' H') X.xe s
def wI (S : Stat) (tg iter : Expr) : TI := fun σ H R => ∀ X, IsCx S X → ∀ pins s, Inv X pins σ H s → wpAny (model X.prog X.w) X.A (eval iter X.env) (fun v s1 => wpAny (model X.prog X.w) X.A (pyIter v) (PIE X pins σ tg R) X.xe s1) X.xe s
section
variable {S : Stat} {X : Cx} {e tg iter : Expr} {es : List Expr} {ss : List Stmt} {st : Stmt} {σ : L2.St} {H : Hp}
theorem pe_w (hX : IsCx S X) : PE X e (wE S e) := ⟨fun pins s _ _ _ I h => h X hX pins s I⟩
theorem pt_w (hX : IsCx S X) : PT X e (wT S e) := ⟨fun pins s _ _ _ I h => h X hX pins s I⟩
theorem pw_w (hX : IsCx S X) : PW X e (wW S e) := ⟨fun wh pins s _ _ _ I h => h X hX wh pins s I⟩
theorem pa_w (hX : IsCx S X) : PA X es (wA S es) := ⟨fun pos pins s _ _ _ I h => h X hX pos pins s I⟩
theorem pss_w (hX : IsCx S X) : PSs X ss (wS S ss) := ⟨fun pins s _ _ _ I h => h X hX pins s I⟩
theorem ps_w (hX : IsCx S X) : PS X st (wS1 S st) := ⟨fun pins s _ _ _ I h => h X hX pins s I⟩
theorem pg_w (hX : IsCx S X) : PG X tg (wG S tg) := ⟨fun pins s _ _ _ _ _ I r h => h X hX pins s _ I r⟩
theorem pi_w (hX : IsCx S X) : PI X tg iter (wI S tg iter) := ⟨fun pins s _ _ _ I h => h X hX pins s I⟩
theorem wE_of {t : TE} {Q : VK} (h : ∀ X, IsCx S X → PE X e t) (q : t σ H Q) : wE S e σ H Q := fun X hX pins s I => (h X hX).run pins s σ H Q I q
theorem wT_of {t : TT} {Q : Bool → Hp → Prop} (h : ∀ X, IsCx S X → PT X e t) (q : t σ H Q) : wT S e σ H Q := fun X hX pins s I => (h X hX).run pins s σ H Q I q
theorem wW_of {t : TT} {Q : Bool → Hp → Prop} (h : ∀ X, IsCx S X → PW X e t) (q : t σ H Q) : wW S e σ H Q := fun X hX wh pins s I => (h X hX).run wh pins s σ H Q I q
theorem wA_of {t : TA} {Q : List V → Hp → Prop} (h : ∀ X, IsCx S X → PA X es t) (q : t σ H Q) : wA S es σ H Q := fun X hX pos pins s I => (h X hX).run pos pins s σ H Q I q
theorem wS_of {t : TS} {D : Ends} (h : ∀ X, IsCx S X → PSs X ss t) (q : t D σ H) : wS S ss D σ H := fun X hX pins s I => (h X hX).run pins s σ H D I q
theorem wS1_of {t : TS} {D : Ends} (h : ∀ X, IsCx S X → PS X st t) (q : t D σ H) : wS1 S st D σ H := fun X hX pins s I => (h X hX).run pins s σ H D I q
theorem wG_of {t : TG} {v : V} {Q : L2.St → Hp → Prop} (h : ∀ X, IsCx S X → PG X tg t) (q : t v σ H Q) : wG S tg v σ H Q := fun X hX pins s u I r => (h X hX).run pins s σ H v u Q I r q
theorem wI_of {t : TI} {R : It → Hp → Prop} (h : ∀ X, IsCx S X → PI X tg iter t) (q : t σ H R) : wI S tg iter σ H R := fun X hX pins s I => (h X hX).run pins s σ H R I q
theorem EP.mono {X : Cx} {pins : List (Addr × Obj)} {Q Q' : VK} {u : Value} {s : Shared} (h : EP X pins σ Q u s) (w : ∀ v H, Q v H → Q' v H) : EP X pins σ Q' u s := by
  obtain ⟨v, H', I, r, q⟩ := h
  exact ⟨v, H', I, r, w _ _ q⟩
theorem wE_mono {Q Q' : VK} (h : wE S e σ H Q) (w : ∀ v H, Q v H → Q' v H) : wE S e σ H Q' := fun X hX pins s I => thn (h X hX pins s I) fun _ _ q => EP.mono q w
theorem wT_mono {Q Q' : Bool → Hp → Prop} (h : wT S e σ H Q) (w : ∀ v H, Q v H → Q' v H) : wT S e σ H Q' := fun X hX pins s I => thn (h X hX pins s I) fun _ _ ⟨H', I', q⟩ => ⟨H', I', w _ _ q⟩
end

/-! ### judgements -/
/-- an expression's value, as P tells of value, heap ahead, heap behind, frozen part behind -/
def EW (S : Stat) (γ : Gm) (e : Expr) (P : V → Hp → Hp → Hp → Prop) : Prop :=
  ∀ σ H F, At S γ σ H F → ∀ Q : VK, (∀ v H' F', At S γ σ H' F' → Ex2 H F H' F' → P v H H' F' → Q v H') → wE S e σ H Q
/-- it evaluates to the data d, shared -/
def EJ (S : Stat) (γ : Gm) (e : Expr) (d : PyData) : Prop := EW S γ e fun v _ _ F' => Dp S.K F' v d
inductive SK where | l | t
def SqX (K : PySem.W.Frag) (H : Hp) (a : Addr) (xs : List V) : SK → Prop
  | .l => SqL K H a xs
  | .t => SqT K H a xs
/-- it evaluates to a list or tuple of ds, to be read -/
def QJ (S : Stat) (γ : Gm) (e : Expr) (k : SK) (ds : List PyData) : Prop := EW S γ e fun v _ H' F' => ∃ a vs, v = .ref a ∧ SqX S.K H' a vs k ∧ DpAll S.K F' vs ds
/-- it evaluates to a new list of ds -/
def FJ (S : Stat) (γ : Gm) (e : Expr) (ds : List PyData) : Prop := EW S γ e fun v H H' F' => ∃ a vs, v = .ref a ∧ H a = none ∧ F' a = none ∧ H' a = some (.lst vs) ∧ DpAll S.K F' vs ds
/-- a test -/
def TJ (S : Stat) (γ : Gm) (e : Expr) (b : Bool) : Prop :=
  ∀ σ H F, At S γ σ H F → ∀ Q : Bool → Hp → Prop, (∀ H' F', At S γ σ H' F' → Ex2 H F H' F' → Q b H') → wT S e σ H Q
def WJ (S : Stat) (γ : Gm) (e : Expr) (b : Bool) : Prop :=
  ∀ σ H F, At S γ σ H F → ∀ Q : Bool → Hp → Prop, (∀ H' F', At S γ σ H' F' → Ex2 H F H' F' → Q b H') → wW S e σ H Q
/-- arguments -/
def AJ (S : Stat) (γ : Gm) (es : List Expr) (ds : List PyData) : Prop :=
  ∀ σ H F, At S γ σ H F → ∀ Q : List V → Hp → Prop, (∀ vs H' F', At S γ σ H' F' → Ex2 H F H' F' → DpAll S.K F' vs ds → Q vs H') → wA S es σ H Q
section
variable {S : Stat} {γ : Gm} {e a b c : Expr} {d : PyData} {ds : List PyData} {pos : Pos}
theorem SqX.ext {K : PySem.W.Frag} {H H' : Hp} {a : Addr} {xs : List V} {k : SK} (e : Ext H H') (h : SqX K H a xs k) : SqX K H' a xs k := by
  cases k with
  | l =>
    rcases h with h | h
    · rcases h with h | ⟨o, h⟩
      · exact .inl (.inl (e.keep _ _ h fun _ z => by cases z))
      · exact .inl (.inr ⟨o, e.keep _ _ h fun _ z => by cases z⟩)
    · exact .inr h
  | t =>
    rcases h with h | h
    · rcases h with h | ⟨o, h⟩
      · exact .inl (.inl (e.keep _ _ h fun _ z => by cases z))
      · exact .inl (.inr ⟨o, e.keep _ _ h fun _ z => by cases z⟩)
    · exact .inr h
theorem SqX.le {K : PySem.W.Frag} {F F' : Hp} {a : Addr} {xs : List V} {k : SK} (e : Le F F') (h : SqX K F a xs k) : SqX K F' a xs k := by
  cases k with
  | l => exact e.sqL h
  | t => exact e.sqT h
theorem HF.le {H F : Hp} (h : HF H F) : Le F H := h.sub
theorem EW.imp {P P' : V → Hp → Hp → Hp → Prop} (h : EW S γ e P) (w : ∀ v H H' F', AtH S H' F' → P v H H' F' → P' v H H' F') : EW S γ e P' :=
  fun σ H F at_ Q q => h σ H F at_ Q fun v H' F' a x p => q v H' F' a x (w v H H' F' a.toAtH p)
/-- a new list, shared from now on -/
theorem FJ.ej (h : FJ S γ e ds) : EJ S γ e (.list ds) := fun σ H F at_ Q q => h σ H F at_ Q fun v H' F' a1 x ⟨a, vs, e1, h1, h2, h3, h4⟩ => by
  subst e1
  have hf : HF H' (upd F' a (.lst vs)) := a1.hf.share h3 fun _ z => by cases z
  have x2 : Ex2 H F H' (upd F' a (.lst vs)) := ⟨x.h, x.f.trans (Le.new h2), fun b o e n => by
    by_cases hb : b = a
    · subst hb; exact h1
    · rw [upd_ne hb] at e; exact x.n b o e n⟩
  exact q _ H' _ (at_.ex x2 hf) x2 (.lst (SqL.of upd_same) (h4.zmono (Le.new h2)))
theorem EJ.ql (h : EJ S γ e (.list ds)) : QJ S γ e .l ds := EW.imp h fun v H H' F' at_ p => by
  cases p with
  | lst h1 h2 => exact ⟨_, _, rfl, at_.hf.le.sqL h1, h2⟩
theorem EJ.qt (h : EJ S γ e (.tuple ds)) : QJ S γ e .t ds := EW.imp h fun v H H' F' at_ p => by
  cases p with
  | tup h1 h2 => exact ⟨_, _, rfl, at_.hf.le.sqT h1, h2⟩
theorem FJ.q (h : FJ S γ e ds) : QJ S γ e .l ds := EW.imp h fun v H H' F' at_ ⟨a, vs, e1, h1, h2, h3, h4⟩ => ⟨a, vs, e1, SqL.of h3, h4⟩

/-! names, constants -/
theorem e_var {i : Nat} {x : Str} (hN : S.N[i]? = some x) (hv : Vis S.sc x) (hg : γ[i]? = some (.sh d)) (hd : (x == ("__debug__" : Str)) = false := by decide) (hcd : (x == ("__classdict__" : Str)) = false := by decide) : EJ S γ (.Name x pos) d := fun σ H F at_ Q q => by
  obtain ⟨v, h1, h2⟩ := at_.sh i d hg
  exact wE_of (fun X hX => pe_var (by rw [hX.N]; exact hN) (by rw [hX.sc]; exact hv) hd hcd) ⟨v, h1, q v H F at_ (Ex2.refl H F) h2⟩
theorem q_own {i : Nat} {x : Str} (hN : S.N[i]? = some x) (hv : Vis S.sc x) (hg : γ[i]? = some (.ow (.list ds))) (hd : (x == ("__debug__" : Str)) = false := by decide) (hcd : (x == ("__classdict__" : Str)) = false := by decide) : QJ S γ (.Name x pos) .l ds := fun σ H F at_ Q q => by
  obtain ⟨a, h1, _, _, vs, h2, h3⟩ := at_.ow i _ hg
  exact wE_of (fun X hX => pe_var (by rw [hX.N]; exact hN) (by rw [hX.sc]; exact hv) hd hcd) ⟨.ref a, h1, q _ H F at_ (Ex2.refl H F) ⟨a, vs, rfl, SqL.of h2, h3⟩⟩
theorem e_c {v : V} (h : ∀ X, PE X e (tC v)) (hd : ∀ F, Dp S.K F v d) : EJ S γ e d := fun σ H F at_ Q q => wE_of (fun X _ => h X) (q v H F at_ (Ex2.refl H F) (hd F))
theorem e_int {i : Int} {j} : EJ S γ (.Constant (.int i) j pos) (.int i) := e_c (fun _ => pe_int) fun _ => .int i
theorem e_bl {i : Bool} {j} : EJ S γ (.Constant (.bool i) j pos) (.bool i) := e_c (fun _ => pe_bl) fun _ => .bl i
theorem e_non {j} : EJ S γ (.Constant .none j pos) .none := e_c (fun _ => pe_non) fun _ => .non
theorem e_str {x : Str} {j} : EJ S γ (.Constant (.str x) j pos) (.str x) := e_c (fun _ => pe_str) fun _ => .str x

/-! two operands -/
theorem e_bin {op : Operator} {r : R2} {da db dc : PyData} (ho : ∀ X, IsCx S X → OpR X (binaryOp op) r) (ha : EJ S γ a da) (hb : EJ S γ b db)
    (hr : ∀ v u H F Q, AtH S H F → Dp S.K F v da → Dp S.K F u db → (∀ w H' F', HF H' F' → Ex2 H F H' F' → Dp S.K F' w dc → Q w H') → r v u H Q) : EJ S γ (.BinOp a op b pos) dc := fun σ H F at_ Q q =>
  wE_of (fun X hX => pe_op (ho X hX) (pe_w hX) (pe_w hX)) (ha σ H F at_ _ fun v H1 F1 a1 x1 d1 => hb σ H1 F1 a1 _ fun u H2 F2 a2 x2 d2 =>
    hr v u H2 F2 Q a2.toAtH (d1.zmono x2.f) d2 fun w H3 F3 hf x3 d3 => q w H3 F3 (a2.ex x3 hf) ((x1.trans x2).trans x3) d3)
theorem e_binI {op : Operator} {C : Int → Int → Prop} {g : Int → Int → Int} {x y : Int} (ho : ∀ X, IsCx S X → OpR X (binaryOp op) (rI C fun i j => .int (g i j))) (ha : EJ S γ a (.int x)) (hb : EJ S γ b (.int y)) (hc : C x y) : EJ S γ (.BinOp a op b pos) (.int (g x y)) :=
  e_bin ho ha hb fun v u H F Q at_ d1 d2 q => by cases d1; cases d2; exact ⟨_, _, rfl, rfl, hc, q _ H F at_.hf (Ex2.refl H F) (.int _)⟩
theorem e_binI0 {op : Operator} {g : Int → Int → Int} {x y : Int} (ho : ∀ X, IsCx S X → OpR X (binaryOp op) (rI0 fun i j => .int (g i j))) (ha : EJ S γ a (.int x)) (hb : EJ S γ b (.int y)) : EJ S γ (.BinOp a op b pos) (.int (g x y)) :=
  e_bin ho ha hb fun v u H F Q at_ d1 d2 q => by cases d1; cases d2; exact ⟨_, _, rfl, rfl, q _ H F at_.hf (Ex2.refl H F) (.int _)⟩
theorem e_add {x y : Int} (ha : EJ S γ a (.int x)) (hb : EJ S γ b (.int y)) : EJ S γ (.BinOp a .Add b pos) (.int (x + y)) := e_binI0 (fun _ _ => op_add) ha hb
theorem e_sub {x y : Int} (ha : EJ S γ a (.int x)) (hb : EJ S γ b (.int y)) : EJ S γ (.BinOp a .Sub b pos) (.int (x - y)) := e_binI0 (fun _ _ => op_sub) ha hb
theorem e_mul {x y : Int} (ha : EJ S γ a (.int x)) (hb : EJ S γ b (.int y)) (hc : CMul x y) : EJ S γ (.BinOp a .Mult b pos) (.int (x * y)) := e_binI (fun _ _ => op_mul) ha hb hc
theorem e_fdiv {x y : Int} (ha : EJ S γ a (.int x)) (hb : EJ S γ b (.int y)) (hc : CDiv x y) : EJ S γ (.BinOp a .FloorDiv b pos) (.int (x / y)) := e_binI (fun _ _ => op_fdiv) ha hb hc
theorem e_mod {x y : Int} (ha : EJ S γ a (.int x)) (hb : EJ S γ b (.int y)) (hc : 0 < y) : EJ S γ (.BinOp a .Mod b pos) (.int (x % y)) := e_binI (fun _ _ => op_mod) ha hb hc
theorem e_pow {x y : Int} (ha : EJ S γ a (.int x)) (hb : EJ S γ b (.int y)) (hc : CPow x y) : EJ S γ (.BinOp a .Pow b pos) (.int (x ^ y.toNat)) := e_binI (fun _ _ => op_pow) ha hb hc
theorem e_neg {x : Int} (ha : EJ S γ a (.int x)) : EJ S γ (.UnaryOp .USub a pos) (.int (-x)) := fun σ H F at_ Q q =>
  wE_of (fun X hX => pe_un un_neg (pe_w hX)) (ha σ H F at_ _ fun v H1 F1 a1 x1 d1 => by cases d1; exact ⟨_, rfl, q _ H1 F1 a1 x1 (.int _)⟩)
end
end SM

set_option autoImplicit false
set_option Elab.async false
set_option linter.all false
set_option maxRecDepth 100000
set_option maxHeartbeats 4000000
namespace SM
open PySem PySem.Spec PyProof.Rows L2
section
variable {S : Stat} {γ : Gm} {e a b c : Expr} {d : PyData} {ds : List PyData} {pos : Pos}

/-! ### comparisons -/
/-- a comparison's answer -/
def CJ (S : Stat) (γ : Gm) (op : CmpOp) (a b : Expr) (k : Bool) : Prop :=
  ∃ r : R2, (∀ X, IsCx S X → OpR X (compareOp op) r) ∧ ∀ σ H F, At S γ σ H F → ∀ Q : VK, (∀ H' F', At S γ σ H' F' → Ex2 H F H' F' → Q (.bl k) H') → tOp r (wE S a) (wE S b) σ H Q
theorem e_cmp {op : CmpOp} {k : Bool} (h : CJ S γ op a b k) (hm : behindInMarks op b = false) : EJ S γ (.Compare a [op] [b] pos) (.bool k) := fun σ H F at_ Q q => by
  obtain ⟨r, ho, h⟩ := h
  exact wE_of (fun X hX => pe_cmpR (ho X hX) (pe_w hX) (pe_w hX) hm) (h σ H F at_ Q fun H' F' a1 x => q _ H' F' a1 x (.bl _))
theorem t_cmp {op : CmpOp} {k : Bool} (h : CJ S γ op a b k) (hm : behindInMarks op b = false) : TJ S γ (.Compare a [op] [b] pos) k := fun σ H F at_ Q q => by
  obtain ⟨r, ho, h⟩ := h
  exact wT_of (fun X hX => pt_cmpR (ho X hX) (pe_w hX) (pe_w hX) hm) (h σ H F at_ _ fun H' F' a1 x => ⟨k, rfl, q H' F' a1 x⟩)
theorem c_val {op : CmpOp} {r : R2} {da db : PyData} {k : Bool} (ho : ∀ X, IsCx S X → OpR X (compareOp op) r) (ha : EJ S γ a da) (hb : EJ S γ b db)
    (hr : ∀ v u H F Q, AtH S H F → Dp S.K F v da → Dp S.K F u db → Q (.bl k) H → r v u H Q) : CJ S γ op a b k :=
  ⟨r, ho, fun σ H F at_ Q q => ha σ H F at_ _ fun v H1 F1 a1 x1 d1 => hb σ H1 F1 a1 _ fun u H2 F2 a2 x2 d2 => hr v u H2 F2 Q a2.toAtH (d1.zmono x2.f) d2 (q H2 F2 a2 (x1.trans x2))⟩
theorem c_int {op : CmpOp} {g : Int → Int → Bool} {x y : Int} (ho : ∀ X, IsCx S X → OpR X (compareOp op) (rI0 fun i j => .bl (g i j))) (ha : EJ S γ a (.int x)) (hb : EJ S γ b (.int y)) : CJ S γ op a b (g x y) :=
  c_val ho ha hb fun v u H F Q at_ d1 d2 q => by cases d1; cases d2; exact ⟨_, _, rfl, rfl, q⟩
theorem c_lt {x y : Int} (ha : EJ S γ a (.int x)) (hb : EJ S γ b (.int y)) : CJ S γ .Lt a b (decide (x < y)) := c_int (fun _ _ => op_lt) ha hb
theorem c_le {x y : Int} (ha : EJ S γ a (.int x)) (hb : EJ S γ b (.int y)) : CJ S γ .LtE a b (decide (x ≤ y)) := c_int (fun _ _ => op_le) ha hb
theorem c_gt {x y : Int} (ha : EJ S γ a (.int x)) (hb : EJ S γ b (.int y)) : CJ S γ .Gt a b (decide (y < x)) := c_int (fun _ _ => op_gt) ha hb
theorem c_ge {x y : Int} (ha : EJ S γ a (.int x)) (hb : EJ S γ b (.int y)) : CJ S γ .GtE a b (decide (y ≤ x)) := c_int (fun _ _ => op_ge) ha hb
/-- scalars as values -/
def sc1 : PyData → Option V
  | .none => some .non
  | .bool b => some (.bl b)
  | .int i => some (.int i)
  | .str s => some (.str s)
  | _ => none
theorem sc1_of {F : Hp} {K : PySem.W.Frag} {v x : V} {d : PyData} (h : Dp K F v d) (e : sc1 d = some x) : v = x := by
  cases h <;> first | exact Option.some.inj e | cases e
theorem c_eqS {da db : PyData} {x y : V} (ha : EJ S γ a da) (hb : EJ S γ b db) (hx : sc1 da = some x) (hy : sc1 db = some y) (hs : scal x y = true) : CJ S γ .Eq a b (decide (x = y)) :=
  c_val (fun _ _ => op_eq) ha hb fun v u H F Q at_ d1 d2 q => by rw [sc1_of d1 hx, sc1_of d2 hy]; exact ⟨hs, q⟩
theorem c_neS {da db : PyData} {x y : V} (ha : EJ S γ a da) (hb : EJ S γ b db) (hx : sc1 da = some x) (hy : sc1 db = some y) (hs : scal x y = true) : CJ S γ .NotEq a b (!decide (x = y)) :=
  c_val (fun _ _ => op_ne) ha hb fun v u H F Q at_ d1 d2 q => by rw [sc1_of d1 hx, sc1_of d2 hy]; exact ⟨hs, q⟩
theorem dec_iV {x y : Int} : decide (V.int x = V.int y) = decide (x = y) := by rw [dec_int]; exact Bool.beq_eq_decide_eq x y
theorem dec_bV {x y : Bool} : decide (V.bl x = V.bl y) = decide (x = y) := by rw [dec_bl]; exact Bool.beq_eq_decide_eq x y
theorem dec_sV {x y : Str} : decide (V.str x = V.str y) = decide (x = y) := by rw [Bool.eq_iff_iff]; simp
theorem c_eqI {x y : Int} (ha : EJ S γ a (.int x)) (hb : EJ S γ b (.int y)) : CJ S γ .Eq a b (decide (x = y)) := dec_iV ▸ c_eqS ha hb rfl rfl rfl
theorem c_neI {x y : Int} (ha : EJ S γ a (.int x)) (hb : EJ S γ b (.int y)) : CJ S γ .NotEq a b (!decide (x = y)) := by have := c_neS ha hb rfl rfl rfl; rw [dec_iV] at this; exact this
theorem c_eqB {x y : Bool} (ha : EJ S γ a (.bool x)) (hb : EJ S γ b (.bool y)) : CJ S γ .Eq a b (decide (x = y)) := dec_bV ▸ c_eqS ha hb rfl rfl rfl
theorem c_neB {x y : Bool} (ha : EJ S γ a (.bool x)) (hb : EJ S γ b (.bool y)) : CJ S γ .NotEq a b (!decide (x = y)) := by have := c_neS ha hb rfl rfl rfl; rw [dec_bV] at this; exact this
theorem c_eqStr {x y : Str} (ha : EJ S γ a (.str x)) (hb : EJ S γ b (.str y)) : CJ S γ .Eq a b (decide (x = y)) := dec_sV ▸ c_eqS ha hb rfl rfl rfl
def isN : PyData → Bool
  | .none => true
  | _ => false
theorem isN_of {F : Hp} {K : PySem.W.Frag} {v : V} {d : PyData} (h : Dp K F v d) : decide (v = .non) = isN d := by
  cases h <;> simp [isN]
theorem c_isN {p2 : Pos} {j : Nat} (ha : EJ S γ a d) : CJ S γ .Is a (.Constant .none j p2) (isN d) :=
  c_val (fun _ _ => op_isN) ha e_non fun v u H F Q at_ d1 d2 q => by cases d2; refine ⟨rfl, ?_⟩; rw [isN_of d1]; exact q
theorem c_notN {p2 : Pos} {j : Nat} (ha : EJ S γ a d) : CJ S γ .IsNot a (.Constant .none j p2) (!isN d) :=
  c_val (fun _ _ => op_notN) ha e_non fun v u H F Q at_ d1 d2 q => by cases d2; refine ⟨rfl, ?_⟩; rw [isN_of d1]; exact q
/-- data of any depth -/
theorem c_eqD {da db : PyData} (ha : EJ S γ a da) (hb : EJ S γ b db) (h1 : SeqAt.shaped da = true) (h2 : SeqAt.shaped db = true) : CJ S γ .Eq a b (PyData.eqv da db) :=
  c_val (r := rEqD S.K) (fun X hX => hX.K ▸ op_eqD hX.room.units) ha hb fun v u H F Q at_ d1 d2 q => ⟨_, _, d1.zmono at_.hf.le, d2.zmono at_.hf.le, h1, h2, q⟩
theorem c_neD {da db : PyData} (ha : EJ S γ a da) (hb : EJ S γ b db) (h1 : SeqAt.shaped da = true) (h2 : SeqAt.shaped db = true) : CJ S γ .NotEq a b (!PyData.eqv da db) :=
  c_val (r := rNeD S.K) (fun X hX => hX.K ▸ op_neD hX.room.units) ha hb fun v u H F Q at_ d1 d2 q => ⟨_, _, d1.zmono at_.hf.le, d2.zmono at_.hf.le, h1, h2, q⟩
/-- x < y < z, of ints -/
theorem e_chain {op op' : CmpOp} {g g' : Int → Int → Bool} {x y z : Int} (ho : ∀ X : Cx, OpR X (compareOp op) (rI0 fun i j => .bl (g i j))) (ho' : ∀ X : Cx, OpR X (compareOp op') (rI0 fun i j => .bl (g' i j)))
    (ha : EJ S γ a (.int x)) (hb : EJ S γ b (.int y)) (hc : g x y = true → EJ S γ c (.int z)) (hm : lastMarks [op, op'] [b, c] = false) : EJ S γ (.Compare a [op, op'] [b, c] pos) (.bool (g x y && g' y z)) := fun σ H F at_ Q q =>
  wE_of (fun X hX => pe_chain (ho X) (ho' X) (pe_w hX) (pe_w hX) (pe_w hX) hm) (ha σ H F at_ _ fun v H1 F1 a1 x1 d1 => hb σ H1 F1 a1 _ fun u H2 F2 a2 x2 d2 => by
    cases d1; cases d2
    refine ⟨x, y, rfl, rfl, g x y, rfl, ?_⟩
    cases hg : g x y with
    | true =>
      rw [if_pos rfl]
      refine hc hg σ H2 F2 a2 _ fun w H3 F3 a3 x3 d3 => ?_
      cases d3
      rw [hg] at q
      exact ⟨y, z, rfl, rfl, q _ H3 F3 a3 ((x1.trans x2).trans x3) (.bl _)⟩
    | false =>
      rw [if_neg Bool.false_ne_true]
      rw [hg] at q
      exact q _ H2 F2 a2 (x1.trans x2) (.bl _))

theorem t_chain {op op' : CmpOp} {g g' : Int → Int → Bool} {x y z : Int} (ho : ∀ X : Cx, OpR X (compareOp op) (rI0 fun i j => .bl (g i j))) (ho' : ∀ X : Cx, OpR X (compareOp op') (rI0 fun i j => .bl (g' i j)))
    (ha : EJ S γ a (.int x)) (hb : EJ S γ b (.int y)) (hc : g x y = true → EJ S γ c (.int z)) (hm : lastMarks [op, op'] [b, c] = false) : TJ S γ (.Compare a [op, op'] [b, c] pos) (g x y && g' y z) := fun σ H F at_ Q q =>
  wT_of (fun X hX => pt_chain (ho X) (ho' X) (pe_w hX) (pe_w hX) (pe_w hX) hm) (ha σ H F at_ _ fun v H1 F1 a1 x1 d1 => hb σ H1 F1 a1 _ fun u H2 F2 a2 x2 d2 => by
    cases d1; cases d2
    refine ⟨x, y, rfl, rfl, g x y, rfl, ?_⟩
    cases hg : g x y with
    | true =>
      rw [if_pos rfl]
      refine hc hg σ H2 F2 a2 _ fun w H3 F3 a3 x3 d3 => ?_
      cases d3
      rw [hg] at q
      exact ⟨y, z, rfl, rfl, _, rfl, q H3 F3 a3 ((x1.trans x2).trans x3)⟩
    | false =>
      rw [if_neg Bool.false_ne_true]
      rw [hg] at q
      exact ⟨_, rfl, q H2 F2 a2 (x1.trans x2)⟩)

/-! ### tests -/
theorem t_val {k : Bool} (h : EJ S γ e (.bool k)) (he : ∀ (X : Cx) whole, isTrue e X.env whole = (do let v ← whole; standAt e.pos; holding [v] (truthy v))) : TJ S γ e k := fun σ H F at_ Q q =>
  wT_of (fun X hX => pt_val (pe_w hX) (he X)) (h σ H F at_ _ fun v H1 F1 a1 x1 d1 => by cases d1; exact ⟨k, rfl, q H1 F1 a1 x1⟩)
/-- a list's or tuple's truth -/
theorem t_seq {k : SK} (h : QJ S γ e k ds) (he : ∀ (X : Cx) whole, isTrue e X.env whole = (do let v ← whole; standAt e.pos; holding [v] (truthy v))) : TJ S γ e (!ds.isEmpty) := fun σ H F at_ Q q =>
  wT_of (t := fun σ H Q => wE S e σ H fun x H' => ∃ k, TruV S.K x H' k ∧ Q k H') (fun X hX => hX.K ▸ pt_truth (pe_w hX) (he X)) (h σ H F at_ _ fun v H1 F1 a1 x1 ⟨p, vs, e1, h1, h2⟩ => by
    subst e1
    have e2 : (!vs.isEmpty) = !ds.isEmpty := by
      cases h2 <;> rfl
    refine ⟨!ds.isEmpty, ?_, q H1 F1 a1 x1⟩
    cases k with
    | l => exact .inl ⟨vs, h1, e2.symm⟩
    | t => exact .inr (.inl ⟨vs, h1, e2.symm⟩))
theorem t_not {k : Bool} (h : TJ S γ a k) : TJ S γ (.UnaryOp .Not a pos) (!k) := fun σ H F at_ Q q =>
  wT_of (fun X hX => pt_not (pt_w hX)) (h σ H F at_ _ fun H1 F1 a1 x1 => q H1 F1 a1 x1)
theorem t_w {k : Bool} (h : WJ S γ a k) : TJ S γ a k := fun σ H F at_ Q q => wT_of (fun X hX => (pw_w hX).pt) (h σ H F at_ _ q)
variable {rest : List Expr}
theorem w_and1 {k : Bool} (h : TJ S γ a k) : WJ S γ (.BoolOp .And [a] pos) k := fun σ H F at_ Q q => wW_of (fun X hX => pw_and1 (pt_w hX)) (h σ H F at_ _ q)
theorem w_or1 {k : Bool} (h : TJ S γ a k) : WJ S γ (.BoolOp .Or [a] pos) k := fun σ H F at_ Q q => wW_of (fun X hX => pw_or1 (pt_w hX)) (h σ H F at_ _ q)
theorem w_and {k l : Bool} (h : TJ S γ a k) (h2 : k = true → WJ S γ (.BoolOp .And (b :: rest) pos) l) : WJ S γ (.BoolOp .And (a :: b :: rest) pos) (k && l) := fun σ H F at_ Q q =>
  wW_of (fun X hX => pw_and (pt_w hX) (pw_w hX)) (h σ H F at_ _ fun H1 F1 a1 x1 => by
    cases k with
    | true => exact iteT (h2 rfl σ H1 F1 a1 _ fun H2 F2 a2 x2 => q H2 F2 a2 (x1.trans x2))
    | false => exact iteF (q H1 F1 a1 x1))
theorem w_or {k l : Bool} (h : TJ S γ a k) (h2 : k = false → WJ S γ (.BoolOp .Or (b :: rest) pos) l) : WJ S γ (.BoolOp .Or (a :: b :: rest) pos) (k || l) := fun σ H F at_ Q q =>
  wW_of (fun X hX => pw_or (pt_w hX) (pw_w hX)) (h σ H F at_ _ fun H1 F1 a1 x1 => by
    cases k with
    | true => exact iteT (q H1 F1 a1 x1)
    | false => exact iteF (h2 rfl σ H1 F1 a1 _ fun H2 F2 a2 x2 => q H2 F2 a2 (x1.trans x2)))
theorem e_one {op : BoolOp} (h : EJ S γ a d) : EJ S γ (.BoolOp op [a] pos) d := fun σ H F at_ Q q => wE_of (fun X hX => pe_one (pe_w hX)) (h σ H F at_ _ q)
theorem e_and {k l : Bool} (h : EJ S γ a (.bool k)) (h2 : k = true → EJ S γ (.BoolOp .And (b :: rest) pos) (.bool l)) : EJ S γ (.BoolOp .And (a :: b :: rest) pos) (.bool (k && l)) := fun σ H F at_ Q q =>
  wE_of (fun X hX => pe_and (pe_w hX) (pe_w hX)) (h σ H F at_ _ fun v H1 F1 a1 x1 d1 => by
    cases d1
    refine ⟨k, rfl, ?_⟩
    cases k with
    | true => exact iteT (h2 rfl σ H1 F1 a1 _ fun u H2 F2 a2 x2 d2 => q u H2 F2 a2 (x1.trans x2) d2)
    | false => exact iteF (q _ H1 F1 a1 x1 (.bl _)))
theorem e_or {k l : Bool} (h : EJ S γ a (.bool k)) (h2 : k = false → EJ S γ (.BoolOp .Or (b :: rest) pos) (.bool l)) : EJ S γ (.BoolOp .Or (a :: b :: rest) pos) (.bool (k || l)) := fun σ H F at_ Q q =>
  wE_of (fun X hX => pe_or (pe_w hX) (pe_w hX)) (h σ H F at_ _ fun v H1 F1 a1 x1 d1 => by
    cases d1
    refine ⟨k, rfl, ?_⟩
    cases k with
    | true => exact iteT (q _ H1 F1 a1 x1 (.bl _))
    | false => exact iteF (h2 rfl σ H1 F1 a1 _ fun u H2 F2 a2 x2 d2 => q u H2 F2 a2 (x1.trans x2) d2))
theorem e_not {k : Bool} (h : EJ S γ a (.bool k)) : EJ S γ (.UnaryOp .Not a pos) (.bool (!k)) := fun σ H F at_ Q q =>
  wE_of (fun X hX => pe_not (pe_w hX)) (h σ H F at_ _ fun v H1 F1 a1 x1 d1 => by cases d1; exact ⟨k, rfl, q _ H1 F1 a1 x1 (.bl _)⟩)
/-- a if c else b -/
theorem e_if {α : Type} {enc : α → PyData} {k : Bool} {x y : α} (hc : TJ S γ c k) (ha : k = true → EJ S γ a (enc x)) (hb : k = false → EJ S γ b (enc y)) : EJ S γ (.IfExp c a b pos) (enc (if k = true then x else y)) := fun σ H F at_ Q q =>
  wE_of (fun X hX => pe_ifExp (pt_w hX) (pe_w hX) (pe_w hX)) (hc σ H F at_ _ fun H1 F1 a1 x1 => by
    cases k with
    | true => exact iteT (ha rfl σ H1 F1 a1 _ fun u H2 F2 a2 x2 d2 => q u H2 F2 a2 (x1.trans x2) d2)
    | false => exact iteF (hb rfl σ H1 F1 a1 _ fun u H2 F2 a2 x2 d2 => q u H2 F2 a2 (x1.trans x2) d2))

/-! ### argument lists, displays -/
variable {es : List Expr}
def PlainE (e : Expr) : Prop := ∀ (es : List Expr) (env : PySem.Env), starEach (e :: es) env = (false, eval e env) :: starEach es env
theorem a_nil : AJ S γ [] [] := fun σ H F at_ Q q => wA_of (fun X hX => pa_nil) (q [] H F at_ (Ex2.refl H F) .nil)
theorem a_cons (ha : EJ S γ e d) (hr : AJ S γ es ds) (hs : PlainE e) : AJ S γ (e :: es) (d :: ds) := fun σ H F at_ Q q =>
  wA_of (fun X hX => pa_cons (pe_w hX) (pa_w hX) (hs es X.env)) (ha σ H F at_ _ fun v H1 F1 a1 x1 d1 => hr σ H1 F1 a1 _ fun vs H2 F2 a2 x2 d2 => q _ H2 F2 a2 (x1.trans x2) (.cons (d1.zmono x2.f) d2))
theorem e_tup {k : Nat} (h : AJ S γ es ds) (hl : ds.length ≤ sizeLine) : EJ S γ (.Tuple es k pos) (.tuple ds) := fun σ H F at_ Q q =>
  wE_of (fun X hX => pe_tup (pa_w hX)) (h σ H F at_ _ fun vs H1 F1 a1 x1 d1 => ⟨by rw [d1.zlen]; exact hl, fun p hp => by
    have x2 : Ex2 H1 F1 (upd H1 p (.tup vs)) (upd F1 p (.tup vs)) := ex_new a1.hf hp
    exact q _ _ _ (a1.ex x2 (a1.hf.new hp fun _ z => by cases z)) (x1.trans x2) (.tup (SqT.of upd_same) (d1.zmono x2.f))⟩)
theorem f_lst (h : AJ S γ es ds) (hl : ds.length ≤ sizeLine) : FJ S γ (.List es pos) ds := fun σ H F at_ Q q =>
  wE_of (fun X hX => pe_lst (pa_w hX)) (h σ H F at_ _ fun vs H1 F1 a1 x1 d1 => ⟨by rw [d1.zlen]; exact hl, fun p hp => by
    have x2 : Ex2 H1 F1 (upd H1 p (.lst vs)) F1 := ex_newH hp
    exact q _ _ _ (a1.ex x2 (a1.hf.newH hp)) (x1.trans x2) ⟨p, vs, rfl, x1.h.back hp, a1.hf.fnone hp, upd_same, d1⟩⟩)

/-! ### items, slices -/
theorem atI_map {α β : Type} (f : α → β) (xs : List α) (i : Int) : atI (xs.map f) i = (atI xs i).map f := by
  unfold atI
  rw [List.length_map]
  cases ixN xs.length i with
  | none => rfl
  | some j => simp
theorem DpAll_at {K : PySem.W.Frag} {F : Hp} {vs : List V} {i : Int} (h : DpAll K F vs ds) (e : atI ds i = some d) : ∃ v, atI vs i = some v ∧ Dp K F v d := by
  unfold atI at e ⊢
  rw [h.zlen]
  cases hj : ixN ds.length i with
  | none => rw [hj] at e; cases e
  | some j => rw [hj] at e; exact h.zget e
theorem e_ix {k : SK} {i : Int} (ha : QJ S γ a k ds) (hb : EJ S γ b (.int i)) (he : atI ds i = some d) (hs : PlainIx b) : EJ S γ (.Subscript a b pos) d := by
  cases k with
  | l => exact fun σ H F at_ Q q => wE_of (t := tOp (rIxL S.K) (wE S a) (wE S b)) (fun X hX => hX.K ▸ pe_ix ix_list (pe_w hX) (pe_w hX) hs) (ha σ H F at_ _ fun v H1 F1 a1 x1 ⟨p, vs, e1, h1, h2⟩ => hb σ H1 F1 a1 _ fun u H2 F2 a2 x2 d2 => by
      subst e1
      cases d2
      obtain ⟨w, hw, dw⟩ := DpAll_at h2 he
      exact ⟨p, vs, i, w, rfl, rfl, SqX.ext (k := .l) x2.h h1, hw, q w H2 F2 a2 (x1.trans x2) (dw.zmono x2.f)⟩)
  | t => exact fun σ H F at_ Q q => wE_of (t := tOp (rIxT S.K) (wE S a) (wE S b)) (fun X hX => hX.K ▸ pe_ix ix_tup (pe_w hX) (pe_w hX) hs) (ha σ H F at_ _ fun v H1 F1 a1 x1 ⟨p, vs, e1, h1, h2⟩ => hb σ H1 F1 a1 _ fun u H2 F2 a2 x2 d2 => by
      subst e1
      cases d2
      obtain ⟨w, hw, dw⟩ := DpAll_at h2 he
      exact ⟨p, vs, i, w, rfl, rfl, SqX.ext (k := .t) x2.h h1, hw, q w H2 F2 a2 (x1.trans x2) (dw.zmono x2.f)⟩)
theorem e_ixT {α : Type} {enc : α → PyData} {xs : List α} {x : α} {k : SK} {i : Int} (ha : QJ S γ a k (xs.map enc)) (hb : EJ S γ b (.int i)) (he : atI xs i = some x) (hs : PlainIx b) : EJ S γ (.Subscript a b pos) (enc x) :=
  e_ix ha hb (by rw [atI_map, he]; rfl) hs
/-- a written place of a fixed tuple -/
theorem e_ixC {i : Nat} {p2 : Pos} {j : Nat} (ha : EJ S γ a (.tuple ds)) (he : ds[i]? = some d) : EJ S γ (.Subscript a (.Constant (.int (i : Int)) j p2) pos) d :=
  e_ix ha.qt e_int (atI_nat he) (fun _ _ => rfl)
/-- a slice's parts -/
def wO (S : Stat) (e : Option Expr) : TO := fun σ H Q => ∀ X, IsCx S X → ∀ pins s, Inv X pins σ H s → wpAny (model X.prog X.w) X.A (evalPart e X.env) (fun u s' => ∃ o H', Inv X pins σ H' s' ∧ IsPart u o ∧ Q o H') X.xe s
def OJ (S : Stat) (γ : Gm) (e : Option Expr) (o : Option Int) : Prop := ∀ σ H F, At S γ σ H F → ∀ Q : Option Int → Hp → Prop, (∀ H' F', At S γ σ H' F' → Ex2 H F H' F' → Q o H') → wO S e σ H Q
theorem po_w {X : Cx} {e : Option Expr} (hX : IsCx S X) : PO X e (wO S e) := ⟨fun pins s _ _ _ I h => h X hX pins s I⟩
theorem wO_of {e : Option Expr} {t : TO} {σ : L2.St} {H : Hp} {Q : Option Int → Hp → Prop} (h : ∀ X, IsCx S X → PO X e t) (q : t σ H Q) : wO S e σ H Q := fun X hX pins s I => (h X hX).run pins s σ H Q I q
theorem o_none : OJ S γ none none := fun σ H F at_ Q q => wO_of (fun X hX => po_none) (q H F at_ (Ex2.refl H F))
theorem o_some {i : Int} (h : EJ S γ e (.int i)) : OJ S γ (some e) (some i) := fun σ H F at_ Q q => wO_of (fun X hX => po_some (pe_w hX)) (h σ H F at_ _ fun v H1 F1 a1 x1 d1 => by cases d1; exact ⟨i, rfl, q H1 F1 a1 x1⟩)
/-- xs[lo:hi] -/
def cut {α : Type} (xs : List α) (lo hi : Option Int) : List α := (xs.drop (HT.sIx xs.length 0 lo)).take (HT.sIx xs.length xs.length hi - HT.sIx xs.length 0 lo)
theorem cut_map {α β : Type} (f : α → β) (xs : List α) (lo hi : Option Int) : cut (xs.map f) lo hi = (cut xs lo hi).map f := by
  unfold cut
  rw [List.length_map, List.map_take, List.map_drop]
theorem cut_dp {K : PySem.W.Frag} {F : Hp} {vs : List V} {lo hi : Option Int} (h : DpAll K F vs ds) : DpAll K F (cutV vs lo hi) (cut ds lo hi) := by
  unfold cutV cut
  rw [h.zlen]
  exact (h.zdrop _).ztake _
theorem f_sl {lo hi : Option Expr} {l u : Option Int} {p2 : Pos} (ha : QJ S γ a .l ds) (hl : OJ S γ lo l) (hu : OJ S γ hi u) : FJ S γ (.Subscript a (.Slice lo hi none p2) pos) (cut ds l u) := fun σ H F at_ Q q =>
  wE_of (t := tSl (rSlL S.K) (wE S a) (wO S lo) (wO S hi)) (fun X hX => hX.K ▸ pe_slice sl_list (pe_w hX) (po_w hX) (po_w hX)) (ha σ H F at_ _ fun v H1 F1 a1 x1 ⟨p, vs, e1, h1, h2⟩ => hl σ H1 F1 a1 _ fun H2 F2 a2 x2 => hu σ H2 F2 a2 _ fun H3 F3 a3 x3 => by
    subst e1
    refine ⟨p, vs, rfl, SqX.ext (k := .l) (x2.trans x3).h h1, fun p2 hp => ?_⟩
    have x4 : Ex2 H3 F3 (upd H3 p2 (.lst (cutV vs l u))) F3 := ex_newH hp
    exact q _ _ _ (a3.ex x4 (a3.hf.newH hp)) (((x1.trans x2).trans x3).trans x4) ⟨p2, _, rfl, ((x1.trans x2).trans x3).h.back hp, a3.hf.fnone hp, upd_same, cut_dp (h2.zmono (x2.trans x3).f)⟩)
theorem cut_whole {α : Type} {xs : List α} {l u : Option Int} (h : HT.sIx xs.length 0 l = 0 ∧ HT.sIx xs.length xs.length u = xs.length) : cut xs l u = xs := by
  unfold cut
  rw [h.1, h.2, List.drop_zero, Nat.sub_zero, List.take_length]
theorem e_slT {lo hi : Option Expr} {l u : Option Int} {p2 : Pos} (ha : EJ S γ a (.tuple ds)) (hl : OJ S γ lo l) (hu : OJ S γ hi u) : EJ S γ (.Subscript a (.Slice lo hi none p2) pos) (.tuple (cut ds l u)) := fun σ H F at_ Q q =>
  wE_of (t := tSl (rSlA S.K) (wE S a) (wO S lo) (wO S hi)) (fun X hX => hX.K ▸ pe_slice sl_tupA (pe_w hX) (po_w hX) (po_w hX)) (ha σ H F at_ _ fun v H1 F1 a1 x1 dv => hl σ H1 F1 a1 _ fun H2 F2 a2 x2 => hu σ H2 F2 a2 _ fun H3 F3 a3 x3 => by
    cases dv with
    | @tup p vs _ h1 h2 =>
    refine ⟨p, vs, rfl, SqX.ext (k := .t) (x2.trans x3).h (a1.hf.le.sqT h1), fun hw => ?_, fun _ p2 hp => ?_⟩
    · rw [h2.zlen] at hw
      refine q _ H3 F3 a3 ((x1.trans x2).trans x3) ?_
      rw [cut_whole hw]
      exact (Dp.tup h1 h2).zmono (x2.trans x3).f
    · have x4 : Ex2 H3 F3 (upd H3 p2 (.tup (cutV vs l u))) (upd F3 p2 (.tup (cutV vs l u))) := ex_new a3.hf hp
      exact q _ _ _ (a3.ex x4 (a3.hf.new hp fun _ z => by cases z)) (((x1.trans x2).trans x3).trans x4) (.tup (SqT.of upd_same) (cut_dp (h2.zmono ((x2.trans x3).trans x4).f))))
theorem e_slTT {α : Type} {enc : α → PyData} {xs : List α} {lo hi : Option Expr} {l u : Option Int} {p2 : Pos} (ha : EJ S γ a (.tuple (xs.map enc))) (hl : OJ S γ lo l) (hu : OJ S γ hi u) : EJ S γ (.Subscript a (.Slice lo hi none p2) pos) (.tuple ((cut xs l u).map enc)) := by
  rw [← cut_map]; exact e_slT ha hl hu
theorem f_slT {α : Type} {enc : α → PyData} {xs : List α} {lo hi : Option Expr} {l u : Option Int} {p2 : Pos} (ha : QJ S γ a .l (xs.map enc)) (hl : OJ S γ lo l) (hu : OJ S γ hi u) : FJ S γ (.Subscript a (.Slice lo hi none p2) pos) ((cut xs l u).map enc) := by
  rw [← cut_map]; exact f_sl ha hl hu
theorem f_rev {k : Nat} {p1 p2 p3 : Pos} (ha : QJ S γ a .l ds) : FJ S γ (.Subscript a (.Slice none none (some (.UnaryOp .USub (.Constant (.int 1) k p1) p2)) p3) pos) ds.reverse := fun σ H F at_ Q q =>
  wE_of (t := tRevL S.K (wE S a)) (fun X hX => hX.K ▸ pe_revL (pe_w hX)) (ha σ H F at_ _ fun v H1 F1 a1 x1 ⟨p, vs, e1, h1, h2⟩ => by
    subst e1
    refine ⟨p, vs, rfl, h1, fun p2 hp => ?_⟩
    have x4 : Ex2 H1 F1 (upd H1 p2 (.lst vs.reverse)) F1 := ex_newH hp
    exact q _ _ _ (a1.ex x4 (a1.hf.newH hp)) (x1.trans x4) ⟨p2, _, rfl, x1.h.back hp, a1.hf.fnone hp, upd_same, h2.zrev⟩)
end
end SM

set_option autoImplicit false
set_option Elab.async false
set_option linter.all false
set_option maxRecDepth 100000
set_option maxHeartbeats 4000000
namespace SM
open PySem PySem.Spec PyProof.Rows L2
section
variable {S : Stat} {γ : Gm} {e a b c : Expr} {d : PyData} {ds es : List PyData} {pos p : Pos}

/-! ### calls of built-ins -/
/-- the name is the module's or a built-in's -/
abbrev IsGl (S : Stat) (x : Str) : Prop := S.sc.names.lookup x = some .globalImplicit
theorem IsCx.gl {X : Cx} {x : Str} (hX : IsCx S X) (h : IsGl S x) : Gl X x := by
  show X.env.scope.names.lookup x = some .globalImplicit
  rw [hX.sc]; exact h
theorem IsCx.mgn {X : Cx} {x : Str} {o : Option Value} (hX : IsCx S X) (h : S.mg x = o) : X.mg x = o := by rw [hX.mg]; exact h
/-- f(a), f a built-in function: the argument as P tells -/
theorem w_b1 {id : String} {x : Str} {r : List V → Hp → VK → Prop} {P P' : V → Hp → Hp → Hp → Prop} (ho : ∀ X, IsCx S X → CallR X (.builtin id) r) (hg : IsGl S x) (hm : S.mg x = none) (hv : bootBuiltins x = some (.builtin id)) (hs : PlainE a) (ha : EW S γ a P)
    (hr : ∀ v H0 F0 H F Q, AtH S H F → Ex2 H0 F0 H F → P v H0 H F → (∀ w H' F', HF H' F' → Ex2 H F H' F' → P' w H0 H' F' → Q w H') → r [v] H Q) (hn : x ≠ "__name__") (hdb : (x == ("__debug__" : Str)) = false) : EW S γ (.Call (.Name x p) [a] [] pos) P' := fun σ H F at_ Q q =>
  wE_of (fun X hX => pe_callB (ho X hX) (hX.gl hg) (hX.mgn hm) hv (pa_cons (pe_w hX) pa_nil (hs [] X.env)) hn hdb (hs [] X.env) rfl) (ha σ H F at_ _ fun v H1 F1 a1 x1 p1 =>
    hr v H F H1 F1 Q a1.toAtH x1 p1 fun w H2 F2 hf x2 p2 => q w H2 F2 (a1.ex x2 hf) (x1.trans x2) p2)
theorem w_t1 {T : String} {x : Str} {r : List V → Hp → VK → Prop} {P P' : V → Hp → Hp → Hp → Prop} (ho : ∀ X, IsCx S X → CallR X (.type T) r) (hg : IsGl S x) (hm : S.mg x = none) (hv : bootBuiltins x = some (.type T)) (hs : PlainE a) (ha : EW S γ a P)
    (hr : ∀ v H0 F0 H F Q, AtH S H F → Ex2 H0 F0 H F → P v H0 H F → (∀ w H' F', HF H' F' → Ex2 H F H' F' → P' w H0 H' F' → Q w H') → r [v] H Q) (hn : x ≠ "__name__") (hdb : (x == ("__debug__" : Str)) = false) : EW S γ (.Call (.Name x p) [a] [] pos) P' := fun σ H F at_ Q q =>
  wE_of (fun X hX => pe_callTy (ho X hX) (hX.gl hg) (hX.mgn hm) hv (pa_cons (pe_w hX) pa_nil (hs [] X.env)) hn hdb (hs [] X.env) rfl) (ha σ H F at_ _ fun v H1 F1 a1 x1 p1 =>
    hr v H F H1 F1 Q a1.toAtH x1 p1 fun w H2 F2 hf x2 p2 => q w H2 F2 (a1.ex x2 hf) (x1.trans x2) p2)
theorem w_b2 {id : String} {x : Str} {r : List V → Hp → VK → Prop} {da db dc : PyData} (ho : ∀ X, IsCx S X → CallR X (.builtin id) r) (hg : IsGl S x) (hm : S.mg x = none) (hv : bootBuiltins x = some (.builtin id)) (hs : PlainE a) (hs2 : PlainE b) (ha : EJ S γ a da) (hb : EJ S γ b db)
    (hr : ∀ v u H F Q, AtH S H F → Dp S.K F v da → Dp S.K F u db → (∀ w, Dp S.K F w dc → Q w H) → r [v, u] H Q) (hn : x ≠ "__name__") (hdb : (x == ("__debug__" : Str)) = false) (hpl : ∀ X : Cx, (backTo pos (starEach [b] X.env)).any (·.1) = false) : EJ S γ (.Call (.Name x p) [a, b] [] pos) dc := fun σ H F at_ Q q =>
  wE_of (fun X hX => pe_callB (ho X hX) (hX.gl hg) (hX.mgn hm) hv (pa_cons (pe_w hX) (pa_cons (pe_w hX) pa_nil (hs2 [] X.env)) (hs [b] X.env)) hn hdb (hs [b] X.env) (hpl X)) (ha σ H F at_ _ fun v H1 F1 a1 x1 p1 => hb σ H1 F1 a1 _ fun u H2 F2 a2 x2 p2 =>
    hr v u H2 F2 Q a2.toAtH (p1.zmono x2.f) p2 fun w dw => q w H2 F2 a2 (x1.trans x2) dw)
theorem e_len {k : SK} (hg : IsGl S "len") (hm : S.mg "len" = none) (ha : QJ S γ a k ds) (hs : PlainE a) : EJ S γ (.Call (.Name "len" p) [a] [] pos) (.int ds.length) :=
  w_b1 (r := fun xs H Q => ∃ p ys, xs = [.ref p] ∧ (SqL S.K H p ys ∨ SqT S.K H p ys) ∧ Q (.int ys.length) H) (fun X hX => hX.K ▸ call_len_seq) hg hm PySem.boot_len hs ha (fun v H0 F0 H F Q at_ x ⟨q, vs, e1, h1, h2⟩ k2 => by
    subst e1
    refine ⟨q, vs, rfl, ?_, k2 _ H F at_.hf (Ex2.refl H F) (by rw [h2.zlen]; exact .int _)⟩
    cases k with
    | l => exact .inl h1
    | t => exact .inr h1) (by decide) (by decide)
theorem e_lenT {α : Type} {enc : α → PyData} {xs : List α} {k : SK} (hg : IsGl S "len") (hm : S.mg "len" = none) (ha : QJ S γ a k (xs.map enc)) (hs : PlainE a) : EJ S γ (.Call (.Name "len" p) [a] [] pos) (.int xs.length) := by
  have := e_len (p := p) (pos := pos) hg hm ha hs
  rw [List.length_map] at this; exact this
theorem e_abs {i : Int} (hg : IsGl S "abs") (hm : S.mg "abs" = none) (ha : EJ S γ a (.int i)) (hs : PlainE a) : EJ S γ (.Call (.Name "abs" p) [a] [] pos) (.int (i.natAbs : Int)) :=
  w_b1 (fun X hX => call_abs) hg hm boot_abs hs ha (fun v H0 F0 H F Q at_ x d1 k2 => by
    cases d1
    have e : (if i < 0 then -i else i) = (i.natAbs : Int) := by split <;> omega
    exact ⟨i, rfl, k2 _ H F at_.hf (Ex2.refl H F) (by rw [e]; exact .int _)⟩) (by decide) (by decide)
theorem e_int1 {i : Int} (hg : IsGl S "int") (hm : S.mg "int" = none) (ha : EJ S γ a (.int i)) (hs : PlainE a) : EJ S γ (.Call (.Name "int" p) [a] [] pos) (.int i) :=
  w_t1 (fun X hX => call_int1) hg hm boot_int hs ha (fun v H0 F0 H F Q at_ x d1 k2 => by
    cases d1
    exact .inl ⟨i, rfl, k2 _ H F at_.hf (Ex2.refl H F) (.int _)⟩) (by decide) (by decide)
theorem e_max2 {x y : Int} (hg : IsGl S "max") (hm : S.mg "max" = none) (ha : EJ S γ a (.int x)) (hb : EJ S γ b (.int y)) (hs : PlainE a) (hs2 : PlainE b) (hpl : ∀ X : Cx, (backTo pos (starEach [b] X.env)).any (·.1) = false) : EJ S γ (.Call (.Name "max" p) [a, b] [] pos) (.int (max x y)) :=
  w_b2 (fun X hX => call_max2 hX.calm) hg hm boot_max hs hs2 ha hb (fun v u H F Q at_ d1 d2 k => by
    cases d1; cases d2
    have e : (if y > x then y else x) = max x y := by split <;> omega
    exact ⟨x, y, rfl, k _ (by rw [e]; exact .int _)⟩) (by decide) (by decide) hpl
theorem e_min2 {x y : Int} (hg : IsGl S "min") (hm : S.mg "min" = none) (ha : EJ S γ a (.int x)) (hb : EJ S γ b (.int y)) (hs : PlainE a) (hs2 : PlainE b) (hpl : ∀ X : Cx, (backTo pos (starEach [b] X.env)).any (·.1) = false) : EJ S γ (.Call (.Name "min" p) [a, b] [] pos) (.int (min x y)) :=
  w_b2 (fun X hX => call_min2 hX.calm) hg hm boot_min hs hs2 ha hb (fun v u H F Q at_ d1 d2 k => by
    cases d1; cases d2
    have e : (if y < x then y else x) = min x y := by split <;> omega
    exact ⟨x, y, rfl, k _ (by rw [e]; exact .int _)⟩) (by decide) (by decide) hpl
theorem DpAll.ints {K : PySem.W.Frag} {F : Hp} : ∀ {ns : List Int} {vs : List V}, DpAll K F vs (ns.map .int) → vs = ns.map V.int
  | [], _, .nil => rfl
  | n :: ns, _, .cons h t => by cases h; rw [DpAll.ints t]; rfl
theorem DpAll.bools {K : PySem.W.Frag} {F : Hp} : ∀ {ns : List Bool} {vs : List V}, DpAll K F vs (ns.map .bool) → vs = ns.map V.bl
  | [], _, .nil => rfl
  | n :: ns, _, .cons h t => by cases h; rw [DpAll.bools t]; rfl
theorem e_sum {ns : List Int} (hg : IsGl S "sum") (hm : S.mg "sum" = none) (ha : QJ S γ a .l (ns.map .int)) (hs : PlainE a) : EJ S γ (.Call (.Name "sum" p) [a] [] pos) (.int ns.sum) :=
  w_b1 (r := rSum S.K) (fun X hX => hX.K ▸ cr_sum hX.calm) hg hm boot_sum hs ha (fun v H0 F0 H F Q at_ x ⟨q, vs, e1, h1, h2⟩ k2 => by
    subst e1
    obtain rfl := DpAll.ints h2
    exact ⟨q, ns, rfl, h1, k2 _ H F at_.hf (Ex2.refl H F) (.int _)⟩) (by decide) (by decide)
theorem e_maxL {ns : List Int} {m : Int} (hg : IsGl S "max") (hm : S.mg "max" = none) (ha : QJ S γ a .l (ns.map .int)) (he : ns.max? = some m) (hs : PlainE a) : EJ S γ (.Call (.Name "max" p) [a] [] pos) (.int m) :=
  w_b1 (r := rMax S.K) (fun X hX => hX.K ▸ cr_max hX.calm) hg hm boot_max hs ha (fun v H0 F0 H F Q at_ x ⟨q, vs, e1, h1, h2⟩ k2 => by
    subst e1
    obtain rfl := DpAll.ints h2
    obtain ⟨he1, he2⟩ := List.max?_eq_some_iff.mp he
    refine ⟨q, ns, rfl, h1, ?_, fun m' hm' hle => ?_⟩
    · cases ns with
      | nil => cases he
      | cons _ _ => exact Nat.succ_pos _
    · obtain rfl : m' = m := Int.le_antisymm (he2 m' hm') (hle m he1)
      exact k2 _ H F at_.hf (Ex2.refl H F) (.int _)) (by decide) (by decide)
theorem e_minL {ns : List Int} {m : Int} (hg : IsGl S "min") (hm : S.mg "min" = none) (ha : QJ S γ a .l (ns.map .int)) (he : ns.min? = some m) (hs : PlainE a) : EJ S γ (.Call (.Name "min" p) [a] [] pos) (.int m) :=
  w_b1 (r := rMin S.K) (fun X hX => hX.K ▸ cr_min hX.calm) hg hm boot_min hs ha (fun v H0 F0 H F Q at_ x ⟨q, vs, e1, h1, h2⟩ k2 => by
    subst e1
    obtain rfl := DpAll.ints h2
    obtain ⟨he1, he2⟩ := List.min?_eq_some_iff.mp he
    refine ⟨q, ns, rfl, h1, ?_, fun m' hm' hle => ?_⟩
    · cases ns with
      | nil => cases he
      | cons _ _ => exact Nat.succ_pos _
    · obtain rfl : m' = m := Int.le_antisymm (hle m he1) (he2 m' hm')
      exact k2 _ H F at_.hf (Ex2.refl H F) (.int _)) (by decide) (by decide)
theorem e_all {bs : List Bool} (hg : IsGl S "all") (hm : S.mg "all" = none) (ha : QJ S γ a .l (bs.map .bool)) (hs : PlainE a) : EJ S γ (.Call (.Name "all" p) [a] [] pos) (.bool (bs.all id)) :=
  w_b1 (r := rAll S.K) (fun X hX => hX.K ▸ cr_all hX.calm) hg hm boot_all hs ha (fun v H0 F0 H F Q at_ x ⟨q, vs, e1, h1, h2⟩ k2 => by
    subst e1
    obtain rfl := DpAll.bools h2
    exact ⟨q, bs, rfl, h1, k2 _ H F at_.hf (Ex2.refl H F) (.bl _)⟩) (by decide) (by decide)
theorem e_any {bs : List Bool} (hg : IsGl S "any") (hm : S.mg "any" = none) (ha : QJ S γ a .l (bs.map .bool)) (hs : PlainE a) : EJ S γ (.Call (.Name "any" p) [a] [] pos) (.bool (bs.any id)) :=
  w_b1 (r := rAny S.K) (fun X hX => hX.K ▸ cr_any hX.calm) hg hm boot_any hs ha (fun v H0 F0 H F Q at_ x ⟨q, vs, e1, h1, h2⟩ k2 => by
    subst e1
    obtain rfl := DpAll.bools h2
    exact ⟨q, bs, rfl, h1, k2 _ H F at_.hf (Ex2.refl H F) (.bl _)⟩) (by decide) (by decide)
/-- tuple(list), tuple(tuple) -/
theorem e_tuple {k : SK} (hg : IsGl S "tuple") (hm : S.mg "tuple" = none) (ha : QJ S γ a .l ds) (hs : PlainE a) : EJ S γ (.Call (.Name "tuple" p) [a] [] pos) (.tuple ds) :=
  w_t1 (r := fun xs H Q => ∃ p ys, xs = [.ref p] ∧ ((SqL S.K H p ys ∧ ∀ l, H l = none → Q (.ref l) (upd H l (.tup ys))) ∨ (SqT S.K H p ys ∧ Q (.ref p) H))) (fun X hX => hX.K ▸ call_tuple_of) hg hm boot_tuple hs ha (fun v H0 F0 H F Q at_ x ⟨q, vs, e1, h1, h2⟩ k2 => by
    subst e1
    refine ⟨q, vs, rfl, .inl ⟨h1, fun l hl => ?_⟩⟩
    have x4 : Ex2 H F (upd H l (.tup vs)) (upd F l (.tup vs)) := ex_new at_.hf hl
    exact k2 _ _ _ (at_.hf.new hl fun _ z => by cases z) x4 (.tup (SqT.of upd_same) (h2.zmono x4.f))) (by decide) (by decide)
theorem e_tupleT (hg : IsGl S "tuple") (hm : S.mg "tuple" = none) (ha : EJ S γ a (.tuple ds)) (hs : PlainE a) : EJ S γ (.Call (.Name "tuple" p) [a] [] pos) (.tuple ds) :=
  w_t1 (r := fun xs H Q => ∃ p ys, xs = [.ref p] ∧ ((SqL S.K H p ys ∧ ∀ l, H l = none → Q (.ref l) (upd H l (.tup ys))) ∨ (SqT S.K H p ys ∧ Q (.ref p) H))) (fun X hX => hX.K ▸ call_tuple_of) hg hm boot_tuple hs ha (fun v H0 F0 H F Q at_ x d1 k2 => by
    cases d1 with
    | @tup q vs _ h1 h2 => exact ⟨q, vs, rfl, .inr ⟨at_.hf.le.sqT h1, k2 _ H F at_.hf (Ex2.refl H F) (.tup h1 h2)⟩⟩) (by decide) (by decide)
theorem f_list {k : SK} (hg : IsGl S "list") (hm : S.mg "list" = none) (ha : QJ S γ a k ds) (hs : PlainE a) : FJ S γ (.Call (.Name "list" p) [a] [] pos) ds :=
  w_t1 (r := fun xs H Q => ∃ p ys, xs = [.ref p] ∧ (SqL S.K H p ys ∨ SqT S.K H p ys) ∧ ∀ l, H l = none → Q (.ref l) (upd H l (.lst ys))) (fun X hX => hX.K ▸ call_list_of) hg hm boot_list hs ha (fun v H0 F0 H F Q at_ x ⟨q, vs, e1, h1, h2⟩ k2 => by
    subst e1
    refine ⟨q, vs, rfl, ?_, fun l hl => ?_⟩
    · cases k with
      | l => exact .inl h1
      | t => exact .inr h1
    · exact k2 _ _ _ (at_.hf.newH hl) (ex_newH hl) ⟨l, vs, rfl, x.h.back hl, at_.hf.fnone hl, upd_same, h2⟩) (by decide) (by decide)

/-! ### isinstance -/
def tyN : PyData → String
  | .none => "NoneType"
  | .bool _ => "bool"
  | .int _ => "int"
  | .str _ => "str"
  | .list _ => "list"
  | .tuple _ => "tuple"
  | .dict _ => "dict"
def isInst (T : String) (d : PyData) : Bool := tyN d == T || (T == "int" && tyN d == "bool")
theorem tyX_of {K : PySem.W.Frag} {H F : Hp} {v : V} {d : PyData} (hf : HF H F) (h : Dp K F v d) : TyX K H v (.type (tyN d)) := by
  cases h with
  | non => exact .base .non
  | bl b => exact .base (.bl b)
  | int i => exact .base (.int i)
  | str x => exact .base (.str x)
  | lst h1 h2 =>
    rcases h1 with (h | ⟨o, h⟩) | ⟨o, its, n, hk, hc, _⟩
    · exact .base (.lst (hf.sub _ _ h))
    · exact .base (.frz (hf.sub _ _ h))
    · exact .kList hk hc
  | tup h1 h2 =>
    rcases h1 with (h | ⟨o, h⟩) | ⟨o, its, n, hk, hc, _⟩
    · exact .base (.tup (hf.sub _ _ h))
    · exact .fTuple (hf.sub _ _ h)
    · exact .kTuple hk hc
theorem e_isi {T : String} {x : Str} {p2 : Pos} (hg : IsGl S "isinstance") (hm : S.mg "isinstance" = none) (hg2 : IsGl S x) (hm2 : S.mg x = none) (hv : bootBuiltins x = some (.type T)) (ha : EJ S γ a d) (hs : PlainE a) (hk : kitB (tyN d) T = some (isInst T d))
    (hpl : ∀ X : Cx, (backTo pos (starEach [.Name x p2] X.env)).any (·.1) = false) (hn : x ≠ "__name__") (hdb : (x == ("__debug__" : Str)) = false) : EJ S γ (.Call (.Name "isinstance" p) [a, .Name x p2] [] pos) (.bool (isInst T d)) := fun σ H F at_ Q q =>
  wE_of (t := tCB (rIsi S.K) (tCons (wE S a) (tCons (tC (.ty T)) tNil))) (fun X hX => hX.K ▸ pe_callB call_isi (hX.gl hg) (hX.mgn hm) (by decide +kernel) (pa_cons (pe_w hX) (pa_cons (pe_bltn (hX.gl hg2) (hX.mgn hm2) hv rfl hn hdb) pa_nil rfl) (hs _ X.env)) (by decide) (by decide) (hs _ X.env) (hpl X))
    (ha σ H F at_ _ fun v H1 F1 a1 x1 d1 => ⟨v, .ty T, _, _, _, rfl, .ty T, tyX_of a1.hf d1, kit_ty hk, q _ H1 F1 a1 x1 (.bl _)⟩)

/-! ### +, * of sequences -/
theorem add_lq {prog : Program} {w : World} {A : Around} {E : Value → Shared → Prop} {s : Shared} {l b : Addr} {vs ws : List Value} {Q : Value → Shared → Prop} (hl : s.heap.IsList l vs.toArray) (hb : s.heap.IsList b ws.toArray) (hz : vs.length + ws.length ≤ sizeLine)
    (h : Q (.ref s.heap.objs.size) { s with heap := s.heap.push { cls := .type "list", data := .seq (vs ++ ws).toArray } }) : wpAny (model prog w) A (binaryOp .Add (.ref l) (.ref b)) Q E s := by
  obtain ⟨⟨c1, d1, q1, l1⟩, e1, k1, n1, j1⟩ := hl
  obtain ⟨⟨c2, d2, q2, l2⟩, e2, k2, n2, j2⟩ := hb
  obtain rfl : c1 = _ := k1
  obtain rfl : q1 = _ := j1
  obtain rfl : c2 = _ := k2
  obtain rfl : q2 = _ := j2
  have ea : vs.toArray ++ ws.toArray = (vs ++ ws).toArray := by simp
  refine concat_meets ⟨_, e1, rfl⟩ ⟨_, e2, rfl⟩ noFill_list_add seq_list_add PySem.F.slot_list_add PySem.F.entry_list_add (PySem.F.args_list_add_2 _ _) (list_addW l b vs.toArray ws.toArray n1 n2 d1 d2 l1 l2 (by simpa using hz)) ⟨e1, e2, ?_⟩
  rw [ea]
  exact h
def rCatQ (K : PySem.W.Frag) : R2 := fun x y H Q => ∃ l b xs zs, x = .ref l ∧ y = .ref b ∧ SqL K H l xs ∧ SqL K H b zs ∧ xs.length + zs.length ≤ sizeLine ∧ ∀ p, H p = none → Q (.ref p) (upd H p (.lst (xs ++ zs)))
theorem op_catQ {X : Cx} : OpR X (binaryOp .Add) (rCatQ X.K) := by
  intro pins s σ H x y v u Q I rx ry h
  obtain ⟨l, b, xs, zs, rfl, rfl, hl, hb, hz, q⟩ := h
  cases rx; cases ry
  obtain ⟨i1, r1, p1, z1⟩ := I.list hl
  obtain ⟨i2, r2, p2, z2⟩ := I.list hb
  refine add_lq p1.isList p2.isList (by rw [← r1.length, ← r2.length]; exact hz) ?_
  exact ⟨.ref _, _, I.lnew (t' := s.toks) (r1.append r2) (by rw [List.length_append]; exact hz), rfl, q _ I.fresh⟩
theorem f_cat (ha : QJ S γ a .l ds) (hb : QJ S γ b .l es) (hz : ds.length + es.length ≤ sizeLine) : FJ S γ (.BinOp a .Add b pos) (ds ++ es) := fun σ H F at_ Q q =>
  wE_of (t := tOp (rCatQ S.K) (wE S a) (wE S b)) (fun X hX => hX.K ▸ pe_op op_catQ (pe_w hX) (pe_w hX)) (ha σ H F at_ _ fun v H1 F1 a1 x1 ⟨p1, vs, e1, h1, h2⟩ => hb σ H1 F1 a1 _ fun u H2 F2 a2 x2 ⟨p2, us, e2, k1, k2⟩ => by
    subst e1; subst e2
    refine ⟨p1, p2, vs, us, rfl, rfl, SqX.ext (k := .l) x2.h h1, k1, by rw [h2.zlen, k2.zlen]; exact hz, fun p hp => ?_⟩
    have x4 : Ex2 H2 F2 (upd H2 p (.lst (vs ++ us))) F2 := ex_newH hp
    exact q _ _ _ (a2.ex x4 (a2.hf.newH hp)) ((x1.trans x2).trans x4) ⟨p, _, rfl, (x1.trans x2).h.back hp, a2.hf.fnone hp, upd_same, (h2.zmono x2.f).zapp k2⟩)
theorem f_catT {α : Type} {enc : α → PyData} {xs ys : List α} (ha : QJ S γ a .l (xs.map enc)) (hb : QJ S γ b .l (ys.map enc)) (hz : xs.length + ys.length ≤ sizeLine) : FJ S γ (.BinOp a .Add b pos) ((xs ++ ys).map enc) := by
  rw [List.map_append]; exact f_cat ha hb (by rw [List.length_map, List.length_map]; exact hz)
theorem e_cat (ha : EJ S γ a (.tuple ds)) (hb : EJ S γ b (.tuple es)) (hz : ds.length + es.length ≤ sizeLine) : EJ S γ (.BinOp a .Add b pos) (.tuple (ds ++ es)) :=
  e_bin (r := rCatA S.K) (fun X hX => hX.K ▸ op_catA) ha hb fun v u H F Q at_ d1 d2 q => by
    cases d1 with
    | @tup p1 vs _ h1 h2 =>
    cases d2 with
    | @tup p2 us _ k1 k2 =>
    refine ⟨p1, p2, vs, us, rfl, rfl, at_.hf.le.sqT h1, at_.hf.le.sqT k1, by rw [h2.zlen, k2.zlen]; exact hz, fun e => ?_, fun _ e => ?_, fun _ _ p hp => ?_⟩
    · subst e
      cases h2
      exact q _ H F at_.hf (Ex2.refl H F) (.tup k1 k2)
    · subst e
      cases k2
      rw [List.append_nil] at q
      exact q _ H F at_.hf (Ex2.refl H F) (.tup h1 h2)
    · have x4 : Ex2 H F (upd H p (.tup (vs ++ us))) (upd F p (.tup (vs ++ us))) := ex_new at_.hf hp
      exact q _ _ _ (at_.hf.new hp fun _ z => by cases z) x4 (.tup (SqT.of upd_same) ((h2.zapp k2).zmono x4.f))
theorem e_catTT {α : Type} {enc : α → PyData} {xs ys : List α} (ha : EJ S γ a (.tuple (xs.map enc))) (hb : EJ S γ b (.tuple (ys.map enc))) (hz : xs.length + ys.length ≤ sizeLine) : EJ S γ (.BinOp a .Add b pos) (.tuple ((xs ++ ys).map enc)) := by
  rw [List.map_append]; exact e_cat ha hb (by rw [List.length_map, List.length_map]; exact hz)
theorem flat1 {α : Type} (x : α) : ∀ n : Nat, (List.replicate n [x]).flatten = List.replicate n x
  | 0 => rfl
  | n + 1 => by rw [List.replicate_succ, List.replicate_succ, List.flatten_cons, flat1 x n]; rfl
theorem DpAll.rep {K : PySem.W.Frag} {F : Hp} {v : V} (h : Dp K F v d) : ∀ n : Nat, DpAll K F (List.replicate n v) (List.replicate n d)
  | 0 => .nil
  | n + 1 => .cons h (DpAll.rep h n)
/-- [x] * n -/
theorem f_rep {i : Int} (ha : FJ S γ a [d]) (hb : EJ S γ b (.int i)) (hz : i ≤ 16777216) (hz0 : -16777216 ≤ i) : FJ S γ (.BinOp a .Mult b pos) (List.replicate i.toNat d) := fun σ H F at_ Q q =>
  wE_of (fun X hX => pe_op op_rep (pe_w hX) (pe_w hX)) (ha σ H F at_ _ fun v H1 F1 a1 x1 ⟨p1, vs, e1, _, _, h1, h2⟩ => hb σ H1 F1 a1 _ fun u H2 F2 a2 x2 d2 => by
    subst e1
    cases d2
    cases h2 with
    | @cons v0 _ _ _ hv hn =>
    cases hn
    refine ⟨p1, i, [v0], rfl, rfl, x2.h.keep _ _ h1 (fun _ z => by cases z), by omega, by omega, ?_, fun p hp => ?_⟩
    · rw [sizeLine_eq]; show 1 * i.toNat ≤ 16777216; omega
    · rw [flat1]
      have x4 : Ex2 H2 F2 (upd H2 p (.lst (List.replicate i.toNat v0))) F2 := ex_newH hp
      exact q _ _ _ (a2.ex x4 (a2.hf.newH hp)) ((x1.trans x2).trans x4) ⟨p, _, rfl, (x1.trans x2).h.back hp, a2.hf.fnone hp, upd_same, DpAll.rep (hv.zmono x2.f) _⟩)

/-! ### in, not in -/
theorem inV_ints (i : Int) : ∀ ns : List Int, inV (.int i) (ns.map V.int) = decide (i ∈ ns)
  | [] => rfl
  | n :: ns => by
    have ih := inV_ints i ns
    show (eqV (.int n) (.int i) || inV (.int i) (ns.map V.int)) = _
    rw [ih]
    have : eqV (.int n) (.int i) = decide (i = n) := by
      show (n == i) = _
      rw [Bool.eq_iff_iff, beq_iff_eq, decide_eq_true_iff]
      exact eq_comm
    rw [this, Bool.eq_iff_iff, Bool.or_eq_true, decide_eq_true_iff, decide_eq_true_iff, decide_eq_true_iff, List.mem_cons]
theorem flat_ints : ∀ ns : List Int, (ns.map V.int).all flatV = true
  | [] => rfl
  | n :: ns => by show (true && (ns.map V.int).all flatV) = true; rw [flat_ints ns]; rfl
theorem c_inI {i : Int} {ns : List Int} {k : SK} (ha : EJ S γ a (.int i)) (hb : QJ S γ b k (ns.map .int)) : CJ S γ .In a b (decide (i ∈ ns)) :=
  ⟨rIn S.K false, fun X hX => hX.K ▸ op_in_seq, fun σ H F at_ Q q => ha σ H F at_ _ fun v H1 F1 a1 x1 d1 => hb σ H1 F1 a1 _ fun u H2 F2 a2 x2 ⟨p, us, e1, h1, h2⟩ => by
    subst e1; cases d1
    obtain rfl := DpAll.ints h2
    refine ⟨p, _, rfl, ?_, rfl, flat_ints ns, ?_⟩
    · cases k with
      | l => exact .inl h1
      | t => exact .inr h1
    · show Q (.bl (inV (.int i) (ns.map V.int))) H2
      rw [inV_ints]; exact q H2 F2 a2 (x1.trans x2)⟩
theorem c_notInI {i : Int} {ns : List Int} {k : SK} (ha : EJ S γ a (.int i)) (hb : QJ S γ b k (ns.map .int)) : CJ S γ .NotIn a b (!decide (i ∈ ns)) :=
  ⟨rIn S.K true, fun X hX => hX.K ▸ op_notIn_seq, fun σ H F at_ Q q => ha σ H F at_ _ fun v H1 F1 a1 x1 d1 => hb σ H1 F1 a1 _ fun u H2 F2 a2 x2 ⟨p, us, e1, h1, h2⟩ => by
    subst e1; cases d1
    obtain rfl := DpAll.ints h2
    refine ⟨p, _, rfl, ?_, rfl, flat_ints ns, ?_⟩
    · cases k with
      | l => exact .inl h1
      | t => exact .inr h1
    · show Q (.bl (!inV (.int i) (ns.map V.int))) H2
      rw [inV_ints]; exact q H2 F2 a2 (x1.trans x2)⟩
end
end SM

set_option autoImplicit false
set_option Elab.async false
set_option linter.all false
set_option maxRecDepth 100000
set_option maxHeartbeats 4000000
namespace SM
open PySem PySem.Spec PyProof.Rows L2

/-! ### slots stored -/
section
variable {S : Stat} {γ : Gm} {σ : L2.St} {H F : Hp} {i : Nat} {d : PyData} {v : V}
theorem get_set_ne {α : Type} {l : List α} {i j : Nat} {x : α} (h : j ≠ i) : (l.set i x)[j]? = l[j]? := List.getElem?_set_ne (Ne.symm h)
theorem set_cases {l : Gm} {j : Nat} {x y : Sl} (h : (l.set i x)[j]? = some y) : (j = i ∧ y = x ∧ i < l.length) ∨ (j ≠ i ∧ l[j]? = some y) := by
  by_cases e : j = i
  · subst e
    by_cases hl : j < l.length
    · rw [List.getElem?_set_self hl] at h
      exact .inl ⟨rfl, (Option.some.inj h).symm, hl⟩
    · rw [List.getElem?_eq_none (by rw [List.length_set]; omega)] at h; cases h
  · rw [get_set_ne e] at h; exact .inr ⟨e, h⟩
theorem At.setSh (h : At S γ σ H F) (hv : Dp S.K F v d) : At S (γ.set i (.sh d)) (σ.set i (some v)) H F where
  toAtH := h.toAtH
  len := by rw [List.length_set, List.length_set]; exact h.len
  sh := fun j e hj => by
    rcases set_cases hj with ⟨rfl, e1, hl⟩ | ⟨hne, hj⟩
    · cases e1
      exact ⟨v, List.getElem?_set_self (by rw [h.len]; exact hl), hv⟩
    · rw [get_set_ne hne]; exact h.sh j e hj
  ow := fun j e hj => by
    rcases set_cases hj with ⟨rfl, e1, hl⟩ | ⟨hne, hj⟩
    · cases e1
    · rw [get_set_ne hne]; exact h.ow j e hj
  apart := fun j k e f a hj hk h1 h2 => by
    rcases set_cases hj with ⟨rfl, e1, hl⟩ | ⟨hne, hj⟩
    · cases e1
    · rcases set_cases hk with ⟨rfl, e1, hl⟩ | ⟨hne2, hk⟩
      · cases e1
      · rw [get_set_ne hne] at h1; rw [get_set_ne hne2] at h2; exact h.apart j k e f a hj hk h1 h2
theorem At.setUn {x : Option V} (h : At S γ σ H F) : At S (γ.set i .un) (σ.set i x) H F where
  toAtH := h.toAtH
  len := by rw [List.length_set, List.length_set]; exact h.len
  sh := fun j e hj => by
    rcases set_cases hj with ⟨rfl, e1, hl⟩ | ⟨hne, hj⟩
    · cases e1
    · rw [get_set_ne hne]; exact h.sh j e hj
  ow := fun j e hj => by
    rcases set_cases hj with ⟨rfl, e1, hl⟩ | ⟨hne, hj⟩
    · cases e1
    · rw [get_set_ne hne]; exact h.ow j e hj
  apart := fun j k e f a hj hk h1 h2 => by
    rcases set_cases hj with ⟨rfl, e1, hl⟩ | ⟨hne, hj⟩
    · cases e1
    · rcases set_cases hk with ⟨rfl, e1, hl⟩ | ⟨hne2, hk⟩
      · cases e1
      · rw [get_set_ne hne] at h1; rw [get_set_ne hne2] at h2; exact h.apart j k e f a hj hk h1 h2
/-- a is held by no slot -/
def Loose (γ : Gm) (σ : L2.St) (a : Addr) : Prop := ∀ (j : Nat) (e : PyData), γ[j]? = some (.ow e) → σ[j]? ≠ some (some (.ref a))
theorem At.setOw {a : Addr} (h : At S γ σ H F) (ho : Own S H F a d) (hl : Loose γ σ a) : At S (γ.set i (.ow d)) (σ.set i (some (.ref a))) H F where
  toAtH := h.toAtH
  len := by rw [List.length_set, List.length_set]; exact h.len
  sh := fun j e hj => by
    rcases set_cases hj with ⟨rfl, e1, hl⟩ | ⟨hne, hj⟩
    · cases e1
    · rw [get_set_ne hne]; exact h.sh j e hj
  ow := fun j e hj => by
    rcases set_cases hj with ⟨rfl, e1, hl⟩ | ⟨hne, hj⟩
    · cases e1
      exact ⟨a, List.getElem?_set_self (by rw [h.len]; exact hl), ho⟩
    · rw [get_set_ne hne]; exact h.ow j e hj
  apart := fun j k e f b hj hk h1 h2 => by
    rcases set_cases hj with ⟨rfl, e1, hl1⟩ | ⟨hne, hj⟩
    · rcases set_cases hk with ⟨rfl, e2, hl2⟩ | ⟨hne2, hk⟩
      · rfl
      · rw [List.getElem?_set_self (by rw [h.len]; exact hl1)] at h1
        rw [get_set_ne hne2] at h2
        cases h1
        exact absurd h2 (hl k f hk)
    · rename_i hj0
      rcases set_cases hk with ⟨rfl, e2, hl2⟩ | ⟨hne2, hk⟩
      · rw [List.getElem?_set_self (by rw [h.len]; exact hl2)] at h2
        rw [get_set_ne hne] at h1
        cases h2
        exact absurd h1 (hl j e (by assumption))
      · rw [get_set_ne hne] at h1; rw [get_set_ne hne2] at h2; exact h.apart j k e f b hj hk h1 h2
theorem Loose.new {a : Addr} (h : At S γ σ H F) (hn : H a = none) : Loose γ σ a := fun j e hj z => by
  obtain ⟨b, h1, h2⟩ := h.ow j e hj
  rw [h1] at z
  cases z
  obtain ⟨o, ho, _⟩ := h2.there
  rw [hn] at ho; cases ho
/-- what no slot holds is changed -/
theorem At.mut {a : Addr} {o : HO} (h : At S γ σ H F) (hl : Loose γ σ a) (hF : F a = none) (hB : S.B a = none) (ht : ∀ ps, H a ≠ some (.tbl ps)) : At S γ σ (upd H a o) F where
  ext := h.ext.mut hB
  hf := ⟨fun b u e => by rw [upd_ne (fun z => by rw [z, hF] at e; cases e)]; exact h.hf.sub b u e, h.hf.ntb⟩
  f0 := h.f0
  new := h.new
  tabs := fun P hP => by
    obtain ⟨ps, h1, h2⟩ := h.tabs P hP
    exact ⟨ps, by rw [upd_ne (fun z => by rw [z] at h1; exact ht ps h1)]; exact h1, h2⟩
  len := h.len
  sh := h.sh
  ow := fun j e hj => by
    obtain ⟨b, h1, h2⟩ := h.ow j e hj
    refine ⟨b, h1, h2.keep (fun u hu => ?_) (Le.refl F) h2.fnone⟩
    rw [upd_ne (fun z => hl j e hj (by rw [h1, z]))]; exact hu
  apart := h.apart
/-- weaker slots -/
def GLe : Gm → Gm → Prop
  | [], [] => True
  | _ :: r, .un :: r' => GLe r r'
  | x :: r, y :: r' => x = y ∧ GLe r r'
  | _, _ => False
theorem GLe.len : ∀ {γ γ' : Gm}, GLe γ γ' → γ.length = γ'.length
  | [], [], _ => rfl
  | _ :: r, .un :: r', h => congrArg (· + 1) (GLe.len (γ := r) (γ' := r') h)
  | _ :: r, .sh _ :: r', h => congrArg (· + 1) (GLe.len (γ := r) (γ' := r') h.2)
  | _ :: r, .ow _ :: r', h => congrArg (· + 1) (GLe.len (γ := r) (γ' := r') h.2)
  | [], _ :: _, h => h.elim
  | _ :: _, [], h => h.elim
theorem GLe.get : ∀ {γ γ' : Gm}, GLe γ γ' → ∀ {j : Nat} {y : Sl}, γ'[j]? = some y → y = .un ∨ γ[j]? = some y
  | [], [], _, _, _, e => by simp at e
  | x :: r, .un :: r', h, 0, y, e => .inl (by simpa using e.symm)
  | x :: r, .un :: r', h, j + 1, y, e => by
    have := GLe.get (γ := r) (γ' := r') h (j := j) (y := y) (by simpa using e)
    simpa using this
  | x :: r, .sh _ :: r', h, 0, y, e => .inr (by rw [h.1]; simpa using e)
  | x :: r, .ow _ :: r', h, 0, y, e => .inr (by rw [h.1]; simpa using e)
  | x :: r, .sh _ :: r', h, j + 1, y, e => by
    have := GLe.get (γ := r) (γ' := r') h.2 (j := j) (y := y) (by simpa using e)
    simpa using this
  | x :: r, .ow _ :: r', h, j + 1, y, e => by
    have := GLe.get (γ := r) (γ' := r') h.2 (j := j) (y := y) (by simpa using e)
    simpa using this
  | [], _ :: _, h, _, _, _ => h.elim
  | _ :: _, [], h, _, _, _ => h.elim
theorem At.weak {γ' : Gm} (h : At S γ σ H F) (w : GLe γ γ') : At S γ' σ H F where
  toAtH := h.toAtH
  len := h.len.trans w.len
  sh := fun j e hj => by
    rcases w.get hj with z | z
    · cases z
    · exact h.sh j e z
  ow := fun j e hj => by
    rcases w.get hj with z | z
    · cases z
    · exact h.ow j e z
  apart := fun j k e f a hj hk h1 h2 => by
    rcases w.get hj with z | z
    · cases z
    · rcases w.get hk with y | y
      · cases y
      · exact h.apart j k e f a z y h1 h2
end

/-! ### sizes -/
def Sz (S : Stat) (H : Hp) : Prop := ∀ (a : Addr) (xs : List V) (k : SK), SqX S.K H a xs k → xs.length ≤ sizeLine
theorem EW.sz {S : Stat} {γ : Gm} {e : Expr} {P : V → Hp → Hp → Hp → Prop} (h : EW S γ e P) : EW S γ e (fun v H H' F' => P v H H' F' ∧ Sz S H') := fun σ H F at_ Q q X hX pins s I => by
  refine thn (h σ H F at_ (fun v H' => Sz S H' → Q v H') (fun v H' F' a1 x1 p1 sz => q v H' F' a1 x1 ⟨p1, sz⟩) X hX pins s I) fun u s' ⟨v, H', I', r, k⟩ => ⟨v, H', I', r, k fun a xs kd hq => ?_⟩
  cases kd with
  | l =>
    have hq' : SqL X.K H' a xs := hX.K ▸ hq
    obtain ⟨_, _, _, z⟩ := I'.list hq'
    exact z
  | t =>
    have hq' : SqT X.K H' a xs := hX.K ▸ hq
    obtain ⟨_, _, _, z⟩ := I'.tuple hq'
    exact z

/-! ### targets -/
/-- a target takes d: the slots behind it; is: the slots that it stores -/
def GJ (S : Stat) (γ : Gm) (tg : Expr) (d : PyData) (γ' : Gm) (is : List Nat) : Prop :=
  ∀ σ H F v, At S γ σ H F → Dp S.K F v d → ∀ Q : L2.St → Hp → Prop, (∀ σ', At S γ' σ' H F → σ'.length = σ.length → (∀ j, j ∉ is → σ'[j]? = σ[j]?) → Q σ' H) → wG S tg v σ H Q
def GsJ (S : Stat) (γ : Gm) (ts : List Expr) (ds : List PyData) (γ' : Gm) (is : List Nat) : Prop :=
  ∀ σ H F vs, At S γ σ H F → DpAll S.K F vs ds → ∀ Q : L2.St → Hp → Prop, (∀ σ', At S γ' σ' H F → σ'.length = σ.length → (∀ j, j ∉ is → σ'[j]? = σ[j]?) → Q σ' H) →
    ∀ X, IsCx S X → ∀ pins s us, Inv X pins σ H s → Vals vs us → wpAny (model X.prog X.w) X.A (assignInOrder ((assignEach ts X.env).map (·.2)) us) (fun _ s' => ∃ σ' H', Inv X pins σ' H' s' ∧ Q σ' H') X.xe s
section
variable {S : Stat} {γ γ' γ2 : Gm} {d : PyData} {ds : List PyData} {pos : Pos} {is js : List Nat} {tg : Expr} {ts : List Expr}
/-- a name that may be stored: its place i -/
structure NmOk (S : Stat) (x : Str) (i : Nat) : Prop where
  nd : S.N.Nodup
  at_ : S.N[i]? = some x
  loc : Loc S.sc x
  fn : S.fn x = true ∨ S.sc.names.lookup x = some .local
theorem IsCx.loc {X : Cx} {x : Str} (hX : IsCx S X) (h : Loc S.sc x) : Loc X.env.scope x := by rw [hX.sc]; exact h
theorem IsCx.fnl {X : Cx} {x : Str} (hX : IsCx S X) (h : S.fn x = true ∨ S.sc.names.lookup x = some .local) : X.fn x = true ∨ X.env.scope.names.lookup x = some .local := by rw [hX.fn, hX.sc]; exact h
theorem g_name {x : Str} {i : Nat} (n : NmOk S x i) : GJ S γ (.Name x pos) d (γ.set i (.sh d)) [i] := fun σ H F v at_ dv Q q =>
  wG_of (fun X hX => pg_name (i := i) (by rw [hX.N]; exact n.nd) (by rw [hX.N]; exact n.at_) (hX.loc n.loc) (hX.fnl n.fn)) (q _ (at_.setSh dv) (List.length_set ..) fun j hj => get_set_ne (by simpa using hj))
theorem gs_nil : GsJ S γ [] [] γ [] := fun σ H F vs at_ dv Q q X hX pins s us I r => by
  cases dv
  cases r
  exact assignInOrder_nil ⟨σ, H, I, q σ at_ rfl fun _ _ => rfl⟩
def PlainT (e : Expr) : Prop := ∀ (es : List Expr) (env : PySem.Env), (assignEach (e :: es) env).map (·.2) = assign e env :: (assignEach es env).map (·.2)
theorem gs_cons (h1 : GJ S γ tg d γ' is) (h2 : GsJ S γ' ts ds γ2 js) (hs : PlainT tg) : GsJ S γ (tg :: ts) (d :: ds) γ2 (is ++ js) := fun σ H F vs at_ dv Q q X hX pins s us I r => by
  cases dv with
  | cons d1 d2 =>
  cases r with
  | cons r1 r2 =>
  rw [hs]
  refine assignInOrder_cons (thn (h1 σ H F _ at_ d1 (fun σ1 H1 => H1 = H ∧ At S γ' σ1 H F ∧ σ1.length = σ.length ∧ ∀ j, j ∉ is → σ1[j]? = σ[j]?) (fun σ1 a1 l1 n1 => ⟨rfl, a1, l1, n1⟩) X hX pins s _ I r1) fun _ s1 ⟨σ1, H1, I1, e1, a1, l1, n1⟩ => ?_)
  subst e1
  exact h2 σ1 H1 F _ a1 d2 Q (fun σ2 a2 l2 n2 => q σ2 a2 (l2.trans l1) fun j hj => (n2 j fun z => hj (List.mem_append_right _ z)).trans (n1 j fun z => hj (List.mem_append_left _ z))) X hX pins s1 _ I1 r2
theorem g_tup {k : Nat} (h : GsJ S γ ts ds γ' is) (hn : ∀ X : Cx, (assignEach ts X.env).length = ds.length) (hst : ∀ X : Cx, (assignEach ts X.env).findIdx? (·.1) = none) : GJ S γ (.Tuple ts k pos) (.tuple ds) γ' is := fun σ H F v at_ dv Q q X hX pins s u I r => by
  cases dv with
  | @tup a vs _ h1 h2 =>
  have g : PGs X ts (fun xs σ1 H1 Q1 => xs = vs ∧ σ1 = σ ∧ H1 = H ∧ ∀ σ', At S γ' σ' H F → σ'.length = σ.length → (∀ j, j ∉ is → σ'[j]? = σ[j]?) → Q1 σ' H) :=
    ⟨fun pins s σ1 H1 xs us Q1 I1 r1 ⟨e1, e2, e3, k⟩ => by subst e1; subst e2; subst e3; exact h σ1 H1 F _ at_ h2 Q1 k X hX pins s us I1 r1⟩
  refine (pg_tup (X := X) (k := k) (pos := pos) (n := ds.length) hX.calm g (hn X) (hst X)).run pins s σ H _ u Q I r ⟨a, vs, rfl, ?_, h2.zlen, rfl, rfl, rfl, q⟩
  rw [hX.K]; exact at_.hf.le.sqT h1
end

/-! ### what is walked -/
def YD (K : PySem.W.Frag) (F : Hp) (items : List PyData) : Nat → Hp → V → Hp → Prop := fun i H x H' =>
  ∃ d, items[i]? = some d ∧ ((H' = H ∧ Dp K F x d) ∨ ∃ T xs ds, H T = none ∧ H' = upd H T (.tup xs) ∧ x = .ref T ∧ d = .tuple ds ∧ DpAll K F xs ds)
def IW (G : Hp → Hp → Hp → Prop) (S : Stat) (γ : Gm) (tg iter : Expr) (items : List PyData) : Prop :=
  ∀ σ H F, At S γ σ H F → ∀ R : It → Hp → Prop, (∀ J H1 F1, At S γ σ H1 F1 → Ex2 H F H1 F1 → items.length ≤ sizeLine → Walk J items.length (G H1 F1) (YD S.K F1 items) → R J H1) → wI S tg iter σ H R
/-- it may be walked whatever the turns change -/
abbrev IF : Stat → Gm → Expr → Expr → List PyData → Prop := IW fun _ F1 H => Le F1 H
/-- it may be walked as long as nothing changes -/
abbrev IX : Stat → Gm → Expr → Expr → List PyData → Prop := IW fun H1 _ H => Ext H1 H
section
variable {S : Stat} {γ : Gm} {tg iter a b : Expr} {d : PyData} {ds es items : List PyData} {pos p : Pos}
theorem HF.ext {H F H' : Hp} (h : HF H F) (e : Ext H H') : Le F H' := fun a o q => e.keep a o (h.sub a o q) fun ps z => h.ntb a ps (z ▸ q)
theorem IW.x (h : IF S γ tg iter items) : IX S γ tg iter items := fun σ H F at_ R q => h σ H F at_ R fun J H1 F1 a1 x1 z w => q J H1 F1 a1 x1 z (w.mono (fun H' e => a1.hf.ext e) fun _ _ _ _ _ _ y => y)
theorem yd_at {K : PySem.W.Frag} {F : Hp} {vs : List V} (h : DpAll K F vs ds) : ∀ i H x H', i < ds.length → YAt vs i H x H' → YD K F ds i H x H' := fun i H x H' _ ⟨e, hx⟩ => by
  obtain ⟨d, h1, h2⟩ := h.zget' hx
  exact ⟨d, h1, .inl ⟨e, h2⟩⟩
theorem i_list (h : EJ S γ iter (.list ds)) : IF S γ tg iter ds := fun σ H F at_ R q =>
  wI_of (t := iList S.K (wE S iter)) (fun X hX => hX.K ▸ pi_list (pe_w hX)) (h.sz σ H F at_ _ fun v H1 F1 a1 x1 ⟨dv, sz⟩ => by
    cases dv with
    | @lst p vs _ h1 h2 =>
    refine ⟨p, rfl, ⟨vs, a1.hf.le.sqL h1⟩, q _ H1 F1 a1 x1 (h2.zlen ▸ sz p vs .l (a1.hf.le.sqL h1)) ?_⟩
    rw [← h2.zlen]
    exact walk_list.mono (fun H' e => e.sqL h1) (by rw [h2.zlen]; exact fun i H x H' hi _ y => yd_at h2 i H x H' hi y))
theorem i_tup (h : EJ S γ iter (.tuple ds)) : IF S γ tg iter ds := fun σ H F at_ R q =>
  wI_of (t := iTup S.K (wE S iter)) (fun X hX => hX.K ▸ pi_tup (pe_w hX)) (h.sz σ H F at_ _ fun v H1 F1 a1 x1 ⟨dv, sz⟩ => by
    cases dv with
    | @tup p vs _ h1 h2 =>
    refine ⟨p, rfl, ⟨vs, a1.hf.le.sqT h1⟩, q _ H1 F1 a1 x1 (h2.zlen ▸ sz p vs .t (a1.hf.le.sqT h1)) ?_⟩
    rw [← h2.zlen]
    exact walk_tup.mono (fun H' e => e.sqT h1) (by rw [h2.zlen]; exact fun i H x H' hi _ y => yd_at h2 i H x H' hi y))
theorem i_own (h : QJ S γ iter .l ds) : IX S γ tg iter ds := fun σ H F at_ R q =>
  wI_of (t := iList S.K (wE S iter)) (fun X hX => hX.K ▸ pi_list (pe_w hX)) (h.sz σ H F at_ _ fun v H1 F1 a1 x1 ⟨⟨p, vs, e1, h1, h2⟩, sz⟩ => by
    subst e1
    refine ⟨p, rfl, ⟨vs, h1⟩, q _ H1 F1 a1 x1 (h2.zlen ▸ sz p vs .l h1) ?_⟩
    rw [← h2.zlen]
    exact walk_list.mono (fun H' e => SqX.ext (k := .l) e h1) (by rw [h2.zlen]; exact fun i H x H' hi _ y => yd_at h2 i H x H' hi y))
/-- lo, .. below hi -/
def rng (lo hi : Int) : List Int := (List.range (hi - lo).toNat).map fun (k : Nat) => lo + (k : Int)
theorem rng_len (lo hi : Int) : (rng lo hi).length = (hi - lo).toNat := by unfold rng; rw [List.length_map, List.length_range]
theorem rng_get (lo hi : Int) {i : Nat} (h : i < (hi - lo).toNat) : (rng lo hi)[i]? = some (lo + i) := by
  unfold rng
  rw [List.getElem?_map, List.getElem?_range h]; rfl
def RgB (lo hi : Int) : Prop := -8388608 ≤ lo ∧ lo ≤ 8388608 ∧ -8388608 ≤ hi ∧ hi ≤ 8388608
instance (lo hi : Int) : Decidable (RgB lo hi) := by unfold RgB; infer_instance
theorem rng_walk {S : Stat} {F : Hp} {lo hi : Int} : Walk (Itr lo (hi - lo).toNat) ((rng lo hi).map PyData.int).length (fun _ => True) (YD S.K F ((rng lo hi).map PyData.int)) := by
  rw [List.length_map, rng_len]
  refine walk_range.mono (fun _ _ => trivial) fun i H x H' hi _ ⟨e1, e2⟩ => ⟨.int (lo + i), ?_, .inl ⟨e1, ?_⟩⟩
  · rw [List.getElem?_map, rng_get _ _ hi]; rfl
  · rw [e2]; exact .int _
theorem rng_sz {lo hi : Int} (h : (hi - lo).toNat ≤ 16777216) : ((rng lo hi).map PyData.int).length ≤ sizeLine := by
  rw [List.length_map, rng_len, sizeLine_eq]; exact h
theorem i_range1 {y : Int} (hg : IsGl S "range") (hm : S.mg "range" = none) (ha : EJ S γ a (.int y)) (hs : PlainE a) (hb : RgB 0 y) : IF S γ tg (.Call (.Name "range" p) [a] [] pos) ((rng 0 y).map .int) := fun σ H F at_ R q =>
  wI_of (fun X hX => pi_range1 (hX.gl hg) (hX.mgn hm) (pa_cons (pe_w hX) pa_nil (hs [] X.env)) (hs [] X.env)) (ha σ H F at_ _ fun v H1 F1 a1 x1 d1 => by
    cases d1
    obtain ⟨b1, b2, b3, b4⟩ := hb
    refine ⟨y, rfl, by omega, by omega, q _ H1 F1 a1 x1 (rng_sz (by omega)) ?_⟩
    have e : y.toNat = (y - 0).toNat := by omega
    rw [e]
    exact rng_walk.mono (fun _ _ => trivial) fun _ _ _ _ _ _ y => y)
theorem i_range2 {x y : Int} (hg : IsGl S "range") (hm : S.mg "range" = none) (ha : EJ S γ a (.int x)) (hb : EJ S γ b (.int y)) (hs : PlainE a) (hs2 : PlainE b) (hr : RgB x y) : IF S γ tg (.Call (.Name "range" p) [a, b] [] pos) ((rng x y).map .int) := fun σ H F at_ R q =>
  wI_of (fun X hX => pi_range2 (hX.gl hg) (hX.mgn hm) (pa_cons (pe_w hX) (pa_cons (pe_w hX) pa_nil (hs2 [] X.env)) (hs [b] X.env)) ((hs [b] X.env).trans (congrArg _ (hs2 [] X.env))) (hs2 [] X.env)) (ha σ H F at_ _ fun v H1 F1 a1 x1 d1 => hb σ H1 F1 a1 _ fun u H2 F2 a2 x2 d2 => by
    cases d1; cases d2
    obtain ⟨b1, b2, b3, b4⟩ := hr
    refine ⟨x, y, rfl, ⟨by omega, by omega, by omega, by omega⟩, q _ H2 F2 a2 (x1.trans x2) (rng_sz (by omega)) ?_⟩
    exact rng_walk.mono (fun _ _ => trivial) fun _ _ _ _ _ _ y => y)
end
end SM

set_option autoImplicit false
set_option Elab.async false
set_option linter.all false
set_option maxRecDepth 100000
set_option maxHeartbeats 4000000
namespace SM
open PySem PySem.Spec PyProof.Rows L2

/-! ### list comprehensions -/
def Stat.blk (S : Stat) (scope : Scope) : Stat := { S with sc := relS scope S.sc, fn := fun x => scope.names.lookup x == some .cell }
theorem IsCx.blk {S : Stat} {X : Cx} (hX : IsCx S X) (s : Shared) (H : Hp) (scope : Scope) (cl : List (Str × Addr)) (C : Addr) (fp : List Addr) : IsCx (S.blk scope) (X.blk s H scope (compEnvC scope cl C X.env) fp) where
  prog := hX.prog
  w := hX.w
  K := hX.K
  mg := hX.mg
  base := hX.base
  N := hX.N
  sc := by
    show relS scope X.env.scope = relS scope S.sc
    rw [hX.sc]
  fn := rfl
  room := hX.room
  calm := hX.calm
  code := hX.code
  xe := rfl
def wipeG (γ : Gm) : List Nat → Gm
  | [] => γ
  | v :: vs => (wipeG γ vs).set v .un
section
variable {S : Stat} {γ : Gm} {σ : L2.St} {H F : Hp}
theorem AtH.blk (scope : Scope) (h : AtH S H F) : AtH (S.blk scope) H F := ⟨h.ext, h.hf, h.f0, h.new, h.tabs⟩
theorem Own.blk (scope : Scope) {a : Addr} {d : PyData} (h : Own S H F a d) : Own (S.blk scope) H F a d := by
  cases d <;> exact h
theorem Own.unblk (scope : Scope) {a : Addr} {d : PyData} (h : Own (S.blk scope) H F a d) : Own S H F a d := by
  cases d <;> exact h
theorem At.blk (scope : Scope) (h : At S γ σ H F) : At (S.blk scope) γ σ H F where
  toAtH := h.toAtH.blk scope
  len := h.len
  sh := h.sh
  ow := fun i d e => by
    obtain ⟨a, h1, h2⟩ := h.ow i d e
    exact ⟨a, h1, h2.blk scope⟩
  apart := h.apart
theorem At.wipe (h : At S γ σ H F) : ∀ vs : List Nat, At S (wipeG γ vs) (wipe σ vs) H F
  | [] => h
  | v :: vs => (At.wipe h vs).setUn
theorem wipe_get (σ : L2.St) : ∀ (vs : List Nat) (j : Nat), (wipe σ vs)[j]? = if j ∈ vs then (if j < σ.length then some none else none) else σ[j]?
  | [], j => by simp [wipe]
  | v :: vs, j => by
    have ih := wipe_get σ vs j
    unfold wipe
    by_cases e : j = v
    · subst e
      rw [if_pos List.mem_cons_self]
      by_cases hl : j < σ.length
      · rw [if_pos hl, List.getElem?_set_self (by rw [wipe_length]; exact hl)]
      · rw [if_neg hl, List.getElem?_eq_none (by rw [List.length_set, wipe_length]; omega)]
    · rw [get_set_ne e, ih]
      by_cases hm : j ∈ vs
      · rw [if_pos hm, if_pos (List.mem_cons_of_mem _ hm)]
      · rw [if_neg hm, if_neg (fun z => by rcases List.mem_cons.mp z with z | z; exact e z; exact hm z)]
theorem wipe_ext {σ1 σ2 : L2.St} {vs is : List Nat} (hl : σ1.length = (wipe σ2 vs).length) (h : ∀ j, j ∉ is → σ1[j]? = (wipe σ2 vs)[j]?) (hs : ∀ i ∈ is, i ∈ vs) : wipe σ1 vs = wipe σ2 vs := by
  apply List.ext_getElem?
  intro j
  rw [wipe_length] at hl
  rw [wipe_get, wipe_get]
  by_cases hm : j ∈ vs
  · rw [if_pos hm, if_pos hm, hl]
  · rw [if_neg hm, if_neg hm, h j fun z => hm (hs j z), wipe_get, if_neg hm]
end
/-- tests behind a for -/
def wTs (S : Stat) (ifs : List Expr) : TT := fun σ H Q => ∀ X, IsCx S X → ∃ t : TT, PTs X ifs t ∧ t σ H Q
def TsJ (S : Stat) (γ : Gm) (ifs : List Expr) (k : Bool) : Prop :=
  (ifs = [] ∧ k = true) ∨ ∃ c, ifs = [c] ∧ TJ S γ c k
/-- what a turn of a comprehension gives for the item d -/
def CB (S : Stat) (γ : Gm) (tg : Expr) (ifs : List Expr) (elt : Expr) (vs : List Nat) (d : PyData) (o : Option PyData) : Prop :=
  ∃ γ2 is k, GJ S γ tg d γ2 is ∧ (∀ i ∈ is, i ∈ vs) ∧ TsJ S γ2 ifs k ∧ (k = false → o = none) ∧ (k = true → ∃ d', o = some d' ∧ EJ S γ2 elt d')
def tTs (S : Stat) : List Expr → TT
  | [] => tYes
  | [c] => wT S c
  | _ => fun _ _ _ => False
section
variable {S : Stat} {γ : Gm} {tg iter elt : Expr} {ifs : List Expr} {scope : Scope} {own : List (Str × Nat)} {pos : Pos} {items : List PyData} {outs : List (Option PyData)} {vs : List Nat}
theorem pts_w {X : Cx} (hX : IsCx S X) (hl : ifs.length ≤ 1) : PTs X ifs (tTs S ifs) := by
  match ifs, hl with
  | [], _ => exact pts_nil
  | [c], _ => exact pts_one (pt_w hX)
theorem lc_read (hi : IX S γ tg iter items) (hb : ∀ (i : Nat) (d : PyData), items[i]? = some d → ∃ o, outs[i]? = some o ∧ CB (S.blk scope) (wipeG γ vs) tg ifs elt vs d o) (hl : outs.length = items.length) {σ : L2.St} {H F : Hp} (at_ : At S γ σ H F) {Q : VK}
    (q : ∀ v H' F', At S γ σ H' F' → Ex2 H F H' F' → (∃ a us, v = .ref a ∧ H a = none ∧ F' a = none ∧ H' a = some (.lst us) ∧ DpAll S.K F' us (outs.filterMap id)) → Q v H') :
    tLc (wI S tg iter) (wG (S.blk scope) tg) (tTs (S.blk scope) ifs) (wE (S.blk scope) elt) vs σ H Q := by
  refine hi σ H F at_ _ fun J H1 F1 a1 x1 hz w D hD => ?_
  refine lc_it (n := items.length) (G := Ext H1) w (Pv := fun i H2 => ∃ F2 us, At S γ σ H2 F2 ∧ Loose γ σ D ∧ F2 D = none ∧ S.B D = none ∧ H2 D = some (.lst us) ∧ DpAll S.K F2 us ((outs.take i).filterMap id) ∧ us.length ≤ i ∧ Ex2 H1 F1 H2 F2) ?_ ?_ ?_ ?_
  · refine ⟨F1, [], a1.ex (ex_newH hD) (a1.hf.newH hD), Loose.new a1 hD, a1.hf.fnone hD, a1.ext.back hD, upd_same, ?_, Nat.le_refl _, ex_newH hD⟩
    rw [List.take_zero]; exact .nil
  · rintro i H2 _ ⟨F2, us, _, _, _, _, _, _, _, x2⟩
    exact x2.h
  · rintro i x H2 H3 hi ⟨F2, us, a2, lo, fD, bD, hD2, du, hu, x2⟩ ⟨d, hd, hy⟩
    obtain ⟨o, ho, γ2, is, k, g, hsub, ts, kf, kt⟩ := hb i d hd
    -- the item's heap
    obtain ⟨F3, a3, x3, dx⟩ : ∃ F3, At S γ σ H3 F3 ∧ Ex2 H2 F2 H3 F3 ∧ Dp S.K F3 x d := by
      rcases hy with ⟨e1, dx⟩ | ⟨T, xs, ds, hT, e1, e2, e3, dx⟩
      · subst e1
        exact ⟨F2, a2, Ex2.refl _ _, dx.zmono x2.f⟩
      · subst e1; subst e2; subst e3
        have x4 : Ex2 H2 F2 (upd H2 T (.tup xs)) (upd F2 T (.tup xs)) := ex_new a2.hf hT
        exact ⟨_, a2.ex x4 (a2.hf.new hT fun _ z => by cases z), x4, .tup (SqT.of upd_same) (dx.zmono (x2.trans x4).f)⟩
    have keepD : ∀ {H4 F4 : Hp}, Ex2 H3 F3 H4 F4 → H4 D = some (.lst us) := fun {H4 F4} x4 => (x3.trans x4).h.keep D _ hD2 fun _ z => by cases z
    have fD4 : ∀ {H4 F4 : Hp}, Ex2 H3 F3 H4 F4 → F4 D = none := fun {H4 F4} x4 => by
      cases z : F4 D with
      | none => rfl
      | some u => have := (x3.trans x4).n D u z fD; rw [hD2] at this; cases this
    have tk : (outs.take (i + 1)).filterMap id = (outs.take i).filterMap id ++ o.toList := by
      rw [List.take_add_one, ho, List.filterMap_append]
      cases o <;> rfl
    refine g _ H3 F3 x ((a3.wipe vs).blk scope) dx _ fun σ2 b2 l2 n2 => ⟨wipe_ext l2 n2 hsub, ?_⟩
    have fin : ∀ {k' : Bool}, k' = k → ∀ {H4 F4 : Hp}, At (S.blk scope) γ2 σ2 H4 F4 → Ex2 H3 F3 H4 F4 → if k' = true then wE (S.blk scope) elt σ2 H4 fun y H5 => ∃ acc, H5 D = some (.lst acc) ∧ acc.length < sizeLine ∧ (∃ F2 us, At S γ σ (upd H5 D (.lst (acc ++ [y]))) F2 ∧ Loose γ σ D ∧ F2 D = none ∧ S.B D = none ∧ (upd H5 D (.lst (acc ++ [y]))) D = some (.lst us) ∧ DpAll S.K F2 us ((outs.take (i + 1)).filterMap id) ∧ us.length ≤ i + 1 ∧ Ex2 H1 F1 (upd H5 D (.lst (acc ++ [y]))) F2)
        else (∃ F2 us, At S γ σ H4 F2 ∧ Loose γ σ D ∧ F2 D = none ∧ S.B D = none ∧ H4 D = some (.lst us) ∧ DpAll S.K F2 us ((outs.take (i + 1)).filterMap id) ∧ us.length ≤ i + 1 ∧ Ex2 H1 F1 H4 F2) := by
      intro k' ek H4 F4 b4 x4
      subst ek
      cases k' with
      | true =>
        rw [if_pos rfl]
        obtain ⟨d', eo, ed⟩ := kt rfl
        refine ed σ2 H4 F4 b4 _ fun y H5 F5 b5 x5 dy => ⟨us, keepD (x4.trans x5), Nat.lt_of_le_of_lt hu (Nat.lt_of_lt_of_le hi hz), F5, us ++ [y], ?_, lo, fD4 (x4.trans x5), bD, upd_same, ?_, ?_, ?_⟩
        · refine (a3.ex (x4.trans x5) b5.hf).mut lo (fD4 (x4.trans x5)) bD fun ps z => ?_
          rw [keepD (x4.trans x5)] at z; cases z
        · rw [tk, eo]
          exact (du.zmono ((x3.trans x4).trans x5).f).zapp (.cons dy .nil)
        · rw [List.length_append]; exact Nat.succ_le_succ hu
        · have x6 := ((x2.trans x3).trans x4).trans x5
          exact ⟨x6.h.mut hD, x6.f, x6.n⟩
      | false =>
        rw [if_neg Bool.false_ne_true]
        refine ⟨F4, us, a3.ex x4 b4.hf, lo, fD4 x4, bD, keepD x4, ?_, Nat.le_succ_of_le hu, (x2.trans x3).trans x4⟩
        rw [tk, kf rfl]
        show DpAll S.K F4 us (_ ++ [])
        rw [List.append_nil]
        exact du.zmono (x3.trans x4).f
    rcases ts with ⟨e1, e2⟩ | ⟨c, e1, tc⟩
    · subst e1
      exact fin e2.symm b2 (Ex2.refl _ _)
    · subst e1
      exact tc σ2 H3 F3 b2 _ fun H4 F4 b4 x4 => fin rfl b4 x4
  · rintro H2 ⟨F2, us, a2, lo, fD, bD, hD2, du, hu, x2⟩
    rw [← hl, List.take_length] at du
    exact q _ H2 F2 a2 (x1.trans x2) ⟨D, us, rfl, x1.h.back hD, fD, hD2, du⟩
/-- [elt for tg in iter if ..] -/
theorem f_lc0 (hi : IX S γ tg iter items) (hb : ∀ (i : Nat) (d : PyData), items[i]? = some d → ∃ o, outs[i]? = some o ∧ CB (S.blk scope) (wipeG γ (own.map (·.2))) tg ifs elt (own.map (·.2)) d o) (hl : outs.length = items.length)
    (hN : S.N.Nodup) (ok : blkC S.N S.sc scope own = true) (h1 : ifs.length ≤ 1) (hs : ∀ (X : Cx) x, foldedSetIterable iter X.env x = pure x) : FJ S γ (.ListComp elt [⟨tg, iter, ifs, 0⟩] scope pos) (outs.filterMap id) := fun σ H F at_ Q q =>
  wE_of (fun X hX => pe_lc hX.calm (by rw [hX.N]; exact hN) (pi_w hX) (by rw [hX.N, hX.sc]; exact blkOk_by ok) (fun s H C cl fp => pg_w (hX.blk s H scope cl C fp)) (fun s H C cl fp => pts_w (hX.blk s H scope cl C fp) h1) (fun s H C cl fp => pe_w (hX.blk s H scope cl C fp)) (hs X))
    (lc_read hi hb hl at_ q)

/-! typed -/
variable {α β : Type} {enc : α → PyData} {encB : β → PyData} {xs : List α} {ys : List β}
def compM (f : α → Option (Option β)) : List α → Option (List β)
  | [] => some []
  | x :: xs => (f x).bind fun o => (compM f xs).bind fun ys => some (match o with | some y => y :: ys | none => ys)
theorem compM_get {f : α → Option (Option β)} : ∀ {xs : List α} {ys : List β}, compM f xs = some ys → ∃ rs : List (Option β), rs.length = xs.length ∧ (∀ (i : Nat) (x : α), xs[i]? = some x → ∃ r, rs[i]? = some r ∧ f x = some r) ∧ ys = rs.filterMap id
  | [], ys, h => ⟨[], rfl, fun i x e => by simp at e, (Option.some.inj h).symm⟩
  | x :: xs, ys, h => by
    unfold compM at h
    obtain ⟨o, h1, h⟩ := Option.bind_eq_some_iff.mp h
    obtain ⟨zs, h2, h⟩ := Option.bind_eq_some_iff.mp h
    obtain ⟨rs, l, g, e⟩ := compM_get h2
    refine ⟨o :: rs, by rw [List.length_cons, List.length_cons, l], fun i y hy => ?_, ?_⟩
    · cases i with
      | zero => exact ⟨o, rfl, by rw [show y = x from (Option.some.inj hy).symm]; exact h1⟩
      | succ i => exact g i y hy
    · rw [← Option.some.inj h]
      cases o with
      | none => show zs = rs.filterMap id; exact e
      | some y => show y :: zs = y :: rs.filterMap id; rw [e]
/-- what a turn gives for one item, where its value is there -/
def CBO (S : Stat) (γ : Gm) (tg : Expr) (ifs : List Expr) (elt : Expr) (vs : List Nat) (d : PyData) (encB : β → PyData) (o : Option (Option β)) : Prop := ∀ r, o = some r → CB S γ tg ifs elt vs d (r.map encB)
theorem fm_map (encB : β → PyData) : ∀ rs : List (Option β), (rs.map fun r => r.map encB).filterMap id = (rs.filterMap id).map encB
  | [] => rfl
  | none :: rs => fm_map encB rs
  | some y :: rs => congrArg (encB y :: ·) (fm_map encB rs)
theorem f_lc {f : α → Option (Option β)} (hi : IX S γ tg iter (xs.map enc)) (hb : ∀ x ∈ xs, CBO (S.blk scope) (wipeG γ (own.map (·.2))) tg ifs elt (own.map (·.2)) (enc x) encB (f x)) (hr : compM f xs = some ys)
    (hN : S.N.Nodup) (ok : blkC S.N S.sc scope own = true) (h1 : ifs.length ≤ 1) (hs : ∀ (X : Cx) x, foldedSetIterable iter X.env x = pure x) : FJ S γ (.ListComp elt [⟨tg, iter, ifs, 0⟩] scope pos) (ys.map encB) := by
  obtain ⟨rs, l, g, e⟩ := compM_get hr
  have := f_lc0 (outs := rs.map fun r => r.map encB) (pos := pos) hi (fun i d hd => by
    rw [List.getElem?_map] at hd
    cases hx : xs[i]? with
    | none => rw [hx] at hd; cases hd
    | some x =>
      rw [hx] at hd
      obtain rfl : enc x = d := Option.some.inj hd
      obtain ⟨r, h2, h3⟩ := g i x hx
      exact ⟨r.map encB, by rw [List.getElem?_map, h2]; rfl, hb x (List.mem_of_getElem? hx) r h3⟩) (by rw [List.length_map, List.length_map, l]) hN ok h1 hs
  rw [fm_map, ← e] at this
  exact this
theorem compM_tot {p : α → Bool} {g : α → β} : ∀ xs : List α, compM (fun x => some (if p x = true then some (g x) else none)) xs = some ((xs.filter p).map g)
  | [] => rfl
  | x :: xs => by
    unfold compM
    rw [compM_tot xs]
    cases h : p x with
    | true => rw [List.filter_cons_of_pos h]; rfl
    | false => rw [List.filter_cons_of_neg (by rw [h]; exact Bool.false_ne_true)]; rfl
theorem compM_map {g : α → β} : ∀ xs : List α, compM (fun x => some (some (g x))) xs = some (xs.map g)
  | [] => rfl
  | x :: xs => by unfold compM; rw [compM_map xs]; rfl
end
/-! a turn, by its parts -/
section
variable {S : Stat} {γ γ2 : Gm} {tg elt c : Expr} {vs is : List Nat} {d : PyData} {β τ : Type} {encB : β → PyData}
theorem EJ.of {e : Expr} {d d' : PyData} (h : EJ S γ e d) (e1 : d = d') : EJ S γ e d' := e1 ▸ h
/-- the value where it is there -/
def EO (S : Stat) (γ : Gm) (e : Expr) (enc : β → PyData) (o : Option β) : Prop := ∀ x, o = some x → EJ S γ e (enc x)
theorem eo_some {e : Expr} {x : β} (h : EJ S γ e (encB x)) : EO S γ e encB (some x) := fun y hy => by cases hy; exact h
theorem eo_bind {e : Expr} {o : Option τ} {f : τ → Option β} (h : ∀ t, o = some t → EO S γ e encB (f t)) : EO S γ e encB (o.bind f) := fun x hx => by
  obtain ⟨t, h1, h2⟩ := Option.bind_eq_some_iff.mp hx
  exact h t h1 x h2
theorem EO.elim {e : Expr} {o : Option β} {x : β} (h : EO S γ e encB o) (hx : o = some x) : EJ S γ e (encB x) := h x hx
theorem eo_if {a b : Expr} {pos : Pos} {k : Bool} {oa ob : Option β} (hc : TJ S γ c k) (ha : k = true → EO S γ a encB oa) (hb : k = false → EO S γ b encB ob) : EO S γ (.IfExp c a b pos) encB (if k = true then oa else ob) := fun x hx => by
  cases k with
  | true =>
    have := e_if (enc := encB) (x := x) (y := x) (pos := pos) hc (fun _ => ha rfl x (by simpa using hx)) (fun z => by cases z) (b := b)
    rw [if_pos rfl] at this; exact this
  | false =>
    have := e_if (enc := encB) (x := x) (y := x) (pos := pos) hc (fun z => by cases z) (fun _ => hb rfl x (by simpa using hx)) (a := a)
    rw [if_neg Bool.false_ne_true] at this; exact this
theorem cb0 {o : Option β} (g : GJ S γ tg d γ2 is) (hs : ∀ i ∈ is, i ∈ vs) (h : EO S γ2 elt encB o) : CBO S γ tg [] elt vs d encB (o.bind fun y => some (some y)) := fun r hr => by
  obtain ⟨y, h1, h2⟩ := Option.bind_eq_some_iff.mp hr
  cases h2
  exact ⟨γ2, is, true, g, hs, .inl ⟨rfl, rfl⟩, (fun z => by cases z), fun _ => ⟨_, rfl, h y h1⟩⟩
theorem cb0T {y : β} (g : GJ S γ tg d γ2 is) (hs : ∀ i ∈ is, i ∈ vs) (h : EJ S γ2 elt (encB y)) : CBO S γ tg [] elt vs d encB (some (some y)) := fun r hr => by
  cases hr
  exact ⟨γ2, is, true, g, hs, .inl ⟨rfl, rfl⟩, (fun z => by cases z), fun _ => ⟨_, rfl, h⟩⟩
theorem cb_bind {ifs : List Expr} {o : Option τ} {f : τ → Option (Option β)} (h : ∀ t, o = some t → CBO S γ tg ifs elt vs d encB (f t)) : CBO S γ tg ifs elt vs d encB (o.bind f) := fun r hr => by
  obtain ⟨t, h1, h2⟩ := Option.bind_eq_some_iff.mp hr
  exact h t h1 r h2
theorem cb1 {o : Option β} {k : Bool} (g : GJ S γ tg d γ2 is) (hs : ∀ i ∈ is, i ∈ vs) (hc : TJ S γ2 c k) (h : k = true → EO S γ2 elt encB o) : CBO S γ tg [c] elt vs d encB (if k = true then o.bind fun y => some (some y) else some none) := fun r hr => by
  cases k with
  | true =>
    rw [if_pos rfl] at hr
    obtain ⟨y, h1, h2⟩ := Option.bind_eq_some_iff.mp hr
    cases h2
    exact ⟨γ2, is, true, g, hs, .inr ⟨c, rfl, hc⟩, (fun z => by cases z), fun _ => ⟨_, rfl, h rfl y h1⟩⟩
  | false =>
    rw [if_neg Bool.false_ne_true] at hr
    cases hr
    exact ⟨γ2, is, false, g, hs, .inr ⟨c, rfl, hc⟩, fun _ => rfl, (fun z => by cases z)⟩
theorem cb1T {y : β} {k : Bool} (g : GJ S γ tg d γ2 is) (hs : ∀ i ∈ is, i ∈ vs) (hc : TJ S γ2 c k) (h : k = true → EJ S γ2 elt (encB y)) : CBO S γ tg [c] elt vs d encB (some (if k = true then some y else none)) := fun r hr => by
  cases hr
  cases k with
  | true => exact ⟨γ2, is, true, g, hs, .inr ⟨c, rfl, hc⟩, (fun z => by cases z), fun _ => ⟨_, rfl, h rfl⟩⟩
  | false => exact ⟨γ2, is, false, g, hs, .inr ⟨c, rfl, hc⟩, fun _ => rfl, (fun z => by cases z)⟩
end
end SM

set_option autoImplicit false
set_option Elab.async false
set_option linter.all false
set_option maxRecDepth 100000
set_option maxHeartbeats 4000000
namespace SM
open PySem PySem.Spec PyProof.Rows L2

/-! ### statements -/
structure Post where
  nx : Gm → Prop
  rt : PyData → Prop
def SJ (S : Stat) (γ : Gm) (ss : List Stmt) (p : Post) : Prop :=
  ∀ σ H F, At S γ σ H F → ∀ D : Ends, (∀ γ' σ' H' F', p.nx γ' → At S γ' σ' H' F' → Le F F' → D.nx σ' H') → (∀ d v H' F', p.rt d → AtH S H' F' → Le F F' → Dp S.K F' v d → D.rt v H') → wS S ss D σ H
def SJ1 (S : Stat) (γ : Gm) (st : Stmt) (p : Post) : Prop :=
  ∀ σ H F, At S γ σ H F → ∀ D : Ends, (∀ γ' σ' H' F', p.nx γ' → At S γ' σ' H' F' → Le F F' → D.nx σ' H') → (∀ d v H' F', p.rt d → AtH S H' F' → Le F F' → Dp S.K F' v d → D.rt v H') → wS1 S st D σ H
section
variable {S : Stat} {γ γ' : Gm} {st : Stmt} {ss rest : List Stmt} {p : Post} {e a b c tg iter : Expr} {d : PyData} {ds : List PyData} {pos px : Pos}
theorem s_nil (h : p.nx γ) : SJ S γ [] p := fun σ H F at_ D k1 k2 => wS_of (fun X hX => pss_nil) (k1 γ σ H F h at_ (Le.refl F))
theorem s_cons {N : Gm → Prop} (h1 : SJ1 S γ st ⟨N, p.rt⟩) (h2 : ∀ γ', N γ' → SJ S γ' rest p) : SJ S γ (st :: rest) p := fun σ H F at_ D k1 k2 =>
  wS_of (fun X hX => pss_cons (ps_w hX) (pss_w hX)) (h1 σ H F at_ _ (fun γ' σ' H' F' hn a1 l1 => h2 γ' hn σ' H' F' a1 D (fun γ2 σ2 H2 F2 hn2 a2 l2 => k1 γ2 σ2 H2 F2 hn2 a2 (l1.trans l2)) fun d v H2 F2 hr a2 l2 dv => k2 d v H2 F2 hr a2 (l1.trans l2) dv) k2)
theorem s_weak {γ2 : Gm} (w : GLe γ γ2) (h : SJ S γ2 ss p) : SJ S γ ss p := fun σ H F at_ => h σ H F (at_.weak w)
/-- x = e -/
theorem s1_set {x : Str} {i : Nat} (n : NmOk S x i) (h : EJ S γ e d) (hs : ∀ X, IsCx S X → swapsWith e (some (.Name x px)) pos.line X.env = pure false) (hp : p.nx (γ.set i (.sh d))) : SJ1 S γ (.Assign [.Name x px] e pos) p := fun σ H F at_ D k1 k2 =>
  wS1_of (fun X hX => ps_set (i := i) (by rw [hX.N]; exact n.nd) (by rw [hX.N]; exact n.at_) (hX.loc n.loc) (pe_w hX) (hs X hX) (hX.fnl n.fn)) (h σ H F at_ _ fun v H1 F1 a1 x1 dv => k1 _ _ H1 F1 hp (a1.setSh dv) x1.f)
theorem s1_setF {x : Str} {i : Nat} (n : NmOk S x i) (h : FJ S γ e ds) (hs : ∀ X, IsCx S X → swapsWith e (some (.Name x px)) pos.line X.env = pure false) (hp : p.nx (γ.set i (.ow (.list ds)))) : SJ1 S γ (.Assign [.Name x px] e pos) p := fun σ H F at_ D k1 k2 =>
  wS1_of (fun X hX => ps_set (i := i) (by rw [hX.N]; exact n.nd) (by rw [hX.N]; exact n.at_) (hX.loc n.loc) (pe_w hX) (hs X hX) (hX.fnl n.fn)) (h σ H F at_ _ fun v H1 F1 a1 x1 ⟨a, vs, e1, h1, h2, h3, h4⟩ => by
    subst e1
    exact k1 _ _ H1 F1 hp (a1.setOw ⟨at_.ext.back h1, h2, vs, h3, h4⟩ fun j e hj z => Loose.new at_ h1 j e hj z) x1.f)
theorem sw_no {elt : Expr} {gs : List Comprehension} {scope : Scope} {y : Str} {l : Nat} {pl : Pos} {X : Cx} (hX : IsCx S X) (h : S.sc.names.lookup y ≠ some .local) : swapsWith (.ListComp elt gs scope pl) (some (.Name y px)) l X.env = pure false := by
  have hk : (X.env.kindOf y == some NameKind.local) = false := by
    show (X.env.scope.names.lookup y == some NameKind.local) = false
    rw [hX.sc]
    exact beq_eq_false_iff_ne.mpr h
  unfold swapsWith
  simp only [hk, Bool.and_false, Bool.false_and]
  try rfl
/-- x = [..] where the new list is kept on the machine -/
theorem s1_setLc {x : Str} {i : Nat} {elt : Expr} {ifs : List Expr} {scope : Scope} {own : List (Str × Nat)} {pl : Pos} {items : List PyData} {outs : List (Option PyData)} (n : NmOk S x i) (hy : S.sc.names.lookup x = some .local)
    (hi : IX S γ tg iter items) (hb : ∀ (i : Nat) (d : PyData), items[i]? = some d → ∃ o, outs[i]? = some o ∧ CB (S.blk scope) (wipeG γ (own.map (·.2))) tg ifs elt (own.map (·.2)) d o) (hl : outs.length = items.length)
    (ok : blkC S.N S.sc scope own = true) (h1 : ifs.length ≤ 1) (hs : ∀ (X : Cx) x, foldedSetIterable iter X.env x = pure x) (hli : (px.line == pl.line) = true) (hk : S.sc.kind = .function)
    (hsn : (scope.names.any fun (n, k) => n == x && (k == .local || k == .cell)) = false) (hp : p.nx (γ.set i (.ow (.list (outs.filterMap id))))) : SJ1 S γ (.Assign [.Name x px] (.ListComp elt [⟨tg, iter, ifs, 0⟩] scope pl) pos) p := fun σ H F at_ D k1 k2 =>
  wS1_of (fun X hX => ps_setLc (i := i) hX.calm (by rw [hX.N]; exact n.nd) (by rw [hX.N]; exact n.at_) (by rw [hX.sc]; exact hy) (sw_true (by rw [hX.sc]; exact hk) (by rw [hX.sc]; exact hy) hli hsn) (pi_w hX) (by rw [hX.N, hX.sc]; exact blkOk_by ok)
    (fun s H C cl fp => pg_w (hX.blk s H scope cl C fp)) (fun s H C cl fp => pts_w (hX.blk s H scope cl C fp) h1) (fun s H C cl fp => pe_w (hX.blk s H scope cl C fp)) (hs X))
    (lc_read hi hb hl at_ fun v H1 F1 a1 x1 ⟨a, us, e1, h1, h2, h3, h4⟩ => by
      subst e1
      exact k1 _ _ H1 F1 hp (a1.setOw ⟨at_.ext.back h1, h2, us, h3, h4⟩ fun j e hj z => Loose.new at_ h1 j e hj z) x1.f)
/-- any target -/
theorem s1_asg {is : List Nat} (h : EJ S γ e d) (g : GJ S γ tg d γ' is) (hs : ∀ X : Cx, swapsWithSole [tg] e pos.line X.env = pure false) (hw : ∀ X : Cx, swappedStores [tg] e X.env = pure none) (h1 : ∀ X : Cx, (assignEach [tg] X.env).map (·.2) = [assign tg X.env]) (hp : p.nx γ') : SJ1 S γ (.Assign [tg] e pos) p := fun σ H F at_ D k1 k2 =>
  wS1_of (fun X hX => ps_asg (pe_w hX) (pg_w hX) (hs X) (hw X) (h1 X)) (h σ H F at_ _ fun v H1 F1 a1 x1 dv => g σ H1 F1 v a1 dv _ fun σ' a2 _ _ => k1 _ σ' H1 F1 hp a2 x1.f)
/-- x = y, y an owned thing that goes over -/
theorem s1_mv {x y : Str} {i j : Nat} {py : Pos} (n : NmOk S x i) (hN : S.N[j]? = some y) (hv : Vis S.sc y) (hg : γ[j]? = some (.ow d)) (hd : (y == ("__debug__" : Str)) = false) (hcd : (y == ("__classdict__" : Str)) = false)
    (hp : p.nx ((γ.set j .un).set i (.ow d))) : SJ1 S γ (.Assign [.Name x px] (.Name y py) pos) p := fun σ H F at_ D k1 k2 => by
  obtain ⟨a, h1, h2⟩ := at_.ow j d hg
  refine wS1_of (fun X hX => ps_set (i := i) (by rw [hX.N]; exact n.nd) (by rw [hX.N]; exact n.at_) (hX.loc n.loc) (pe_var (i := j) (by rw [hX.N]; exact hN) (by rw [hX.sc]; exact hv) hd hcd) rfl (hX.fnl n.fn)) ⟨.ref a, h1, ?_⟩
  have a2 : At S (γ.set j .un) σ H F := by
    have := at_.setUn (i := j) (x := some (.ref a))
    have e : σ.set j (some (.ref a)) = σ := by
      apply List.ext_getElem?
      intro k
      by_cases hk : k = j
      · subst hk
        obtain ⟨hl, _⟩ := List.getElem?_eq_some_iff.mp h1
        rw [List.getElem?_set_self hl, h1]
      · rw [get_set_ne hk]
    rw [e] at this; exact this
  refine k1 _ _ H F hp (a2.setOw h2 fun k e hk z => ?_) (Le.refl F)
  rcases set_cases hk with ⟨_, e1, _⟩ | ⟨hne, hk⟩
  · cases e1
  · exact hne (at_.apart k j e d a hk hg z h1)
/-- an owned list is shared from now on -/
theorem At.share {σ : L2.St} {H F : Hp} {j : Nat} (h : At S γ σ H F) (hg : γ[j]? = some (.ow (.list ds))) : ∃ F', At S (γ.set j (.sh (.list ds))) σ H F' ∧ Le F F' := by
  obtain ⟨a, h1, hB, hF, vs, h2, h3⟩ := h.ow j _ hg
  have lo : ∀ (k : Nat) (e : PyData), (γ.set j .un)[k]? = some (.ow e) → σ[k]? ≠ some (some (.ref a)) := fun k e hk z => by
    rcases set_cases hk with ⟨_, e1, _⟩ | ⟨hne, hk⟩
    · cases e1
    · exact hne (h.apart k j e _ a hk hg z h1)
  have hf : HF H (upd F a (.lst vs)) := h.hf.share h2 fun _ z => by cases z
  have le : Le F (upd F a (.lst vs)) := Le.new hF
  refine ⟨upd F a (.lst vs), ⟨⟨h.ext, hf, h.f0.trans le, fun b o e n => ?_, h.tabs⟩, by rw [List.length_set]; exact h.len, fun k e hk => ?_, fun k e hk => ?_, fun k l e f b hk hl x y => ?_⟩, le⟩
  · by_cases hb : b = a
    · subst hb; exact hB
    · rw [upd_ne hb] at e; exact h.new b o e n
  · rcases set_cases hk with ⟨rfl, e1, _⟩ | ⟨hne, hk⟩
    · cases e1
      exact ⟨.ref a, h1, .lst (SqL.of upd_same) (h3.zmono le)⟩
    · obtain ⟨v, g1, g2⟩ := h.sh k e hk
      exact ⟨v, g1, g2.zmono le⟩
  · rcases set_cases hk with ⟨rfl, e1, _⟩ | ⟨hne, hk⟩
    · cases e1
    · obtain ⟨b, g1, g2⟩ := h.ow k e hk
      refine ⟨b, g1, g2.keep (fun _ z => z) le ?_⟩
      rw [upd_ne (fun z => hne (h.apart k j e _ a hk hg (by rw [g1, z]) h1))]
      exact g2.fnone
  · rcases set_cases hk with ⟨rfl, e1, _⟩ | ⟨_, hk⟩
    · cases e1
    · rcases set_cases hl with ⟨rfl, e1, _⟩ | ⟨_, hl⟩
      · cases e1
      · exact h.apart k l e f b hk hl x y
theorem s_share {j : Nat} (hg : γ[j]? = some (.ow (.list ds))) (h : SJ S (γ.set j (.sh (.list ds))) ss p) : SJ S γ ss p := fun σ H F at_ D k1 k2 => by
  obtain ⟨F', a1, le⟩ := at_.share hg
  exact h σ H F' a1 D (fun γ' σ' H' F2 hn a2 l2 => k1 γ' σ' H' F2 hn a2 (le.trans l2)) fun d v H' F2 hr a2 l2 dv => k2 d v H' F2 hr a2 (le.trans l2) dv
theorem s1_ret (h : EJ S γ e d) (hp : p.rt d) : SJ1 S γ (.Return (some e) pos) p := fun σ H F at_ D k1 k2 =>
  wS1_of (fun X hX => ps_ret (pe_w hX)) (h σ H F at_ _ fun v H1 F1 a1 x1 dv => k2 d v H1 F1 hp a1.toAtH x1.f dv)
theorem s1_retN (hp : p.rt .none) : SJ1 S γ (.Return none pos) p := fun σ H F at_ D k1 k2 =>
  wS1_of (fun X hX => ps_retN) (k2 .none .non H F hp at_.toAtH (Le.refl F) .non)
theorem s1_pass (hp : p.nx γ) : SJ1 S γ (.Pass pos) p := fun σ H F at_ D k1 k2 => wS1_of (fun X hX => ps_pass) (k1 γ σ H F hp at_ (Le.refl F))
theorem s1_expr (h : EJ S γ e d) (hs : ∀ X : Cx, swapsWith e none pos.line X.env = pure false) (hp : p.nx γ) : SJ1 S γ (.Expr e pos) p := fun σ H F at_ D k1 k2 =>
  wS1_of (fun X hX => ps_expr (pe_w hX) (hs X)) (h σ H F at_ _ fun v H1 F1 a1 x1 dv => k1 γ σ H1 F1 hp a1 x1.f)
theorem s1_if {sa sb : List Stmt} {k : Bool} (hc : TJ S γ c k) (ha : k = true → SJ S γ sa p) (hb : k = false → SJ S γ sb p) : SJ1 S γ (.If c sa sb pos) p := fun σ H F at_ D k1 k2 =>
  wS1_of (fun X hX => ps_if (pt_w hX) (pss_w hX) (pss_w hX)) (hc σ H F at_ _ fun H1 F1 a1 x1 => by
    cases k with
    | true => exact iteT (ha rfl σ H1 F1 a1 D (fun γ' σ' H' F' hn a2 l2 => k1 γ' σ' H' F' hn a2 (x1.f.trans l2)) fun d v H' F' hr a2 l2 dv => k2 d v H' F' hr a2 (x1.f.trans l2) dv)
    | false => exact iteF (hb rfl σ H1 F1 a1 D (fun γ' σ' H' F' hn a2 l2 => k1 γ' σ' H' F' hn a2 (x1.f.trans l2)) fun d v H' F' hr a2 l2 dv => k2 d v H' F' hr a2 (x1.f.trans l2) dv))
/-- x.append(e) -/
theorem At.owSet {σ : L2.St} {H F : Hp} {j : Nat} {a : Addr} {vs : List V} {ds' : List PyData} (h : At S γ σ H F) (hg : γ[j]? = some (.ow (.list ds))) (h1 : σ[j]? = some (some (.ref a))) (dv : DpAll S.K F vs ds') : At S (γ.set j (.ow (.list ds'))) σ (upd H a (.lst vs)) F := by
  obtain ⟨b, e1, hB, hF, us, h2, h3⟩ := h.ow j _ hg
  rw [h1] at e1; cases e1
  have e : σ.set j (some (.ref a)) = σ := by
    apply List.ext_getElem?
    intro k
    by_cases hk : k = j
    · subst hk
      obtain ⟨hl, _⟩ := List.getElem?_eq_some_iff.mp h1
      rw [List.getElem?_set_self hl, h1]
    · rw [get_set_ne hk]
  have a2 : At S (γ.set j .un) σ H F := by
    have := h.setUn (i := j) (x := some (.ref a))
    rw [e] at this; exact this
  have lo : Loose (γ.set j .un) σ a := fun k f hk z => by
    rcases set_cases hk with ⟨_, e1, _⟩ | ⟨hne, hk⟩
    · cases e1
    · exact hne (h.apart k j f _ a hk hg z h1)
  have a3 := (a2.mut lo hF hB (o := .lst vs) fun ps z => by rw [h2] at z; cases z).setOw (i := j) (d := .list ds') ⟨hB, hF, vs, upd_same, dv⟩ lo
  have e2 : (γ.set j .un).set j (.ow (.list ds')) = γ.set j (.ow (.list ds')) := List.set_set ..
  rw [e, e2] at a3
  exact a3
theorem s1_app {x : Str} {j : Nat} {pa pc pn : Pos} (hN : S.N[j]? = some x) (hv : Vis S.sc x) (hg : γ[j]? = some (.ow (.list ds))) (h : EJ S γ e d) (hz : ds.length < sizeLine) (hs : PlainE e) (hd : (x == ("__debug__" : Str)) = false) (hcd : (x == ("__classdict__" : Str)) = false)
    (hba : ∀ X : Cx, attributeBase (.Name x pn) "append" X.env (eval (.Name x pn) X.env) = eval (.Name x pn) X.env) (hli : (pa.endLine == pc.line) = true) (hp : p.nx (γ.set j (.ow (.list (ds ++ [d]))))) : SJ1 S γ (.Expr (.Call (.Attribute (.Name x pn) "append" pa) [e] [] pc) pos) p := fun σ H F at_ D k1 k2 => by
  obtain ⟨a, h1, hB, hF, vs, h2, h3⟩ := at_.ow j _ hg
  refine wS1_of (t := tDrop (tBM S.K "list" rAppend (tVar j) (tCons (wE S e) tNil))) (fun X hX => ps_expr (hX.K ▸ pe_bm PySem.F.plainAttrs_list PySem.F.slot_list_append PySem.F.type_list_append mt_append (pe_var (i := j) (by rw [hX.N]; exact hN) (by rw [hX.sc]; exact hv) hd hcd) (pa_cons (pe_w hX) pa_nil (hs [] X.env)) (hba X) (by rw [hs [] X.env]; rfl) hli (hs [] X.env) rfl) rfl) ⟨.ref a, h1, .inl ⟨rfl, _, SqL.of h2⟩, ?_⟩
  refine h σ H F at_ _ fun v H1 F1 a1 x1 dv => ?_
  have h2' : H1 a = some (.lst vs) := x1.h.keep a _ h2 fun _ z => by cases z
  exact ⟨a, vs, v, rfl, rfl, h2', by rw [h3.zlen]; exact hz, k1 _ σ _ F1 hp (a1.owSet hg h1 ((h3.zmono x1.f).zapp (.cons dv .nil))) x1.f⟩
/-- x[i] = e, x an owned list -/
theorem s1_setix {x : Str} {j i : Nat} {k : Int} {pn pt : Pos} (hN : S.N[j]? = some x) (hv : Vis S.sc x) (hg : γ[j]? = some (.ow (.list ds))) (h : EJ S γ e d) (hi : EJ S γ a (.int k)) (hk : ixN ds.length k = some i) (hd : (x == ("__debug__" : Str)) = false) (hcd : (x == ("__classdict__" : Str)) = false)
    (ha : ∀ (X : Cx) v, assign (.Subscript (.Name x pn) a pt) X.env v = (do
      let ov ← holding [v] (eval (.Name x pn) X.env)
      let iv ← holding [v, ov] (eval a X.env)
      standAt pt
      holding [v, ov, iv] (setItem ov iv v)
      release [v, ov, iv] []))
    (hs : ∀ X : Cx, swapsWithSole [.Subscript (.Name x pn) a pt] e pos.line X.env = pure false) (hw : ∀ X : Cx, swappedStores [.Subscript (.Name x pn) a pt] e X.env = pure none) (he : ∀ X : Cx, (assignEach [.Subscript (.Name x pn) a pt] X.env).map (·.2) = [assign (.Subscript (.Name x pn) a pt) X.env])
    (hp : p.nx (γ.set j (.ow (.list (ds.set i d))))) : SJ1 S γ (.Assign [.Subscript (.Name x pn) a pt] e pos) p := fun σ H F at_ D k1 k2 => by
  obtain ⟨b, h1, hB, hF, vs, h2, h3⟩ := at_.ow j _ hg
  refine wS1_of (fun X hX => ps_asg (pe_w hX) (pg_sub (pe_var (i := j) (by rw [hX.N]; exact hN) (by rw [hX.sc]; exact hv) hd hcd) (pe_w hX) set_list (ha X)) (hs X) (hw X) (he X)) (h σ H F at_ _ fun v H1 F1 a1 x1 dv => ⟨.ref b, h1, ?_⟩)
  refine hi σ H1 F1 a1 _ fun u H2 F2 a2 x2 du => ?_
  cases du
  have h2' : H2 b = some (.lst vs) := (x1.trans x2).h.keep b _ h2 fun _ z => by cases z
  exact ⟨b, vs, k, i, rfl, rfl, h2', by rw [h3.zlen]; exact hk, k1 _ σ _ F2 hp (a2.owSet hg h1 (DpAll.zset (dv.zmono x2.f) i (h3.zmono (x1.trans x2).f))) (x1.trans x2).f⟩
/-- for -/
theorem s1_for {body : List Stmt} {items : List PyData} (hi : IF S γ tg iter items) (I : Nat → Gm → Prop) (h0 : I 0 γ) (hb : ∀ i d γ1, items[i]? = some d → I i γ1 → ∃ γ2 is, GJ S γ1 tg d γ2 is ∧ SJ S γ2 body ⟨I (i + 1), p.rt⟩) (hd : ∀ γ1, I items.length γ1 → p.nx γ1)
    (hs : ∀ (X : Cx) x, foldedSetIterable iter X.env x = pure x) : SJ1 S γ (.For tg iter body [] pos) p := fun σ H F at_ D k1 k2 =>
  wS1_of (fun X hX => ps_for (by rw [hX.xe]; exact PassesOwn.never) hX.calm (pi_w hX) (pg_w hX) (pss_w hX) (hs X)) (hi σ H F at_ _ fun J H1 F1 a1 x1 hz w => by
    refine for_it (n := items.length) (G := Le F1) w (Pv := fun i σ2 H2 => ∃ γ2 F2, I i γ2 ∧ At S γ2 σ2 H2 F2 ∧ Le F1 F2) ⟨γ, F1, h0, a1, Le.refl F1⟩ ?_ ?_ ?_
    · rintro i σ2 H2 _ ⟨γ2, F2, _, a2, l2⟩
      exact fun b o e => a2.hf.sub b o (l2 b o e)
    · rintro i x σ2 H2 H3 hi ⟨γ2, F2, hI, a2, l2⟩ ⟨d, hd, hy⟩
      obtain ⟨F3, a3, l3, dx⟩ : ∃ F3, At S γ2 σ2 H3 F3 ∧ Le F2 F3 ∧ Dp S.K F3 x d := by
        rcases hy with ⟨e1, dx⟩ | ⟨T, xs, ds, hT, e1, e2, e3, dx⟩
        · subst e1
          exact ⟨F2, a2, Le.refl F2, dx.zmono l2⟩
        · subst e1; subst e2; subst e3
          have x4 : Ex2 H2 F2 (upd H2 T (.tup xs)) (upd F2 T (.tup xs)) := ex_new a2.hf hT
          exact ⟨_, a2.ex x4 (a2.hf.new hT fun _ z => by cases z), x4.f, .tup (SqT.of upd_same) (dx.zmono (l2.trans x4.f))⟩
      obtain ⟨γ4, is, g, hbody⟩ := hb i d γ2 hd hI
      refine g σ2 H3 F3 x a3 dx _ fun σ4 a4 _ _ => ?_
      exact hbody σ4 H3 F3 a4 _ (fun γ5 σ5 H5 F5 hn a5 l5 => ⟨γ5, F5, hn, a5, (l2.trans l3).trans l5⟩) fun d v H5 F5 hr a5 l5 dv => k2 d v H5 F5 hr a5 (((x1.f.trans l2).trans l3).trans l5) dv
    · rintro σ2 H2 ⟨γ2, F2, hI, a2, l2⟩
      exact k1 γ2 σ2 H2 F2 (hd γ2 hI) a2 (x1.f.trans l2))
/-- while: I with what is left of the fuel -/
theorem s1_while {body : List Stmt} (I : Nat → Gm → Prop) {n : Nat} (h0 : I n γ) (hb : ∀ m γ1, I m γ1 → ∃ k, TJ S γ1 c k ∧ (k = true → SJ S γ1 body ⟨fun γ2 => ∃ m', m' < m ∧ I m' γ2, p.rt⟩) ∧ (k = false → p.nx γ1)) : SJ1 S γ (.While c body [] pos) p := fun σ H F at_ D k1 k2 =>
  wS1_of (fun X hX => ps_while (by rw [hX.xe]; exact PassesOwn.never) (pt_w hX) (pss_w hX)) ⟨fun m σ2 H2 => ∃ γ2 F2, I m γ2 ∧ At S γ2 σ2 H2 F2 ∧ Le F F2, ⟨n, γ, F, h0, at_, Le.refl F⟩, by
    rintro m σ2 H2 ⟨γ2, F2, hI, a2, l2⟩
    obtain ⟨k, tc, ht, hf⟩ := hb m γ2 hI
    refine tc σ2 H2 F2 a2 _ fun H3 F3 a3 x3 => ?_
    cases k with
    | true =>
      rw [if_pos rfl]
      refine ⟨fun σ4 H4 => ∃ m', m' < m ∧ ∃ γ4 F4, I m' γ4 ∧ At S γ4 σ4 H4 F4 ∧ Le F F4, fun σ4 H4 h => h, ?_⟩
      exact ht rfl σ2 H3 F3 a3 _ (fun γ4 σ4 H4 F4 ⟨m', hm, hI4⟩ a4 l4 => ⟨m', hm, γ4, F4, hI4, a4, (l2.trans x3.f).trans l4⟩) fun d v H5 F5 hr a5 l5 dv => k2 d v H5 F5 hr a5 ((l2.trans x3.f).trans l5) dv
    | false =>
      rw [if_neg Bool.false_ne_true]
      exact k1 γ2 σ2 H3 F3 (hf rfl) a3 (l2.trans x3.f)⟩
end

/-! ### defs -/
/-- what a def promises: from the arguments' data to the answer's -/
def spR (K : PySem.W.Frag) (tabs : List Addr) (n : Nat) (R : List PyData → PyData → Prop) : Sp := fun vs H Q _ => vs.length = n ∧ ∃ F ds r, HF H F ∧ (∀ P ∈ tabs, TabOk H P) ∧ DpAll K F vs ds ∧ R ds r ∧
  ∀ v H' F', Ex2 H F H' F' → HF H' F' → Dp K F' v r → Q v H'
abbrev FnR (S : Stat) (k : Nat) (f : Addr) (fd : FuncData) (ps : List Str) (R : List PyData → PyData → Prop) : Prop := FnOk S.P S.w S.K S.mg S.base CX0 k f fd ps (spR S.K S.tabs ps.length R)
section
variable {S : Stat} {γ : Gm} {e : Expr} {es : List Expr} {ds : List PyData} {d : PyData} {pos p : Pos}
/-- f(..) -/
theorem e_call {x : Str} {k : Nat} {f : Addr} {fd : FuncData} {ps : List Str} {R : List PyData → PyData → Prop} (G : FnR S k f fd ps R) (hk : k ≤ S.k) (hg : IsGl S x) (hm : S.mg x = some (.ref f)) (kp : PySem.W.keepIn S.K (.ref f) = true) (hb : Binds S.K fd ps [])
    (ha : AJ S γ (e :: es) ds) (hr : R ds d) (hl : ds.length = ps.length) (hs : PlainE e) (hpl : ∀ X : Cx, (backTo pos (starEach es X.env)).any (·.1) = false) (hdb : (x == ("__debug__" : Str)) = false) : EJ S γ (.Call (.Name x p) (e :: es) [] pos) d := fun σ H F at_ Q q =>
  wE_of (t := tCall (spR S.K S.tabs ps.length R) [] E0 (wA S (e :: es))) (fun X hX => by
    obtain ⟨prog, w, K, mg, base, A, N, s0, H0, env, outer, stack, ex, fn, calm, pn, xe⟩ := X
    obtain ⟨h1, h2, h3, h4, h5, h6, h7, h8, h9, h10, h11, h12⟩ := id hX
    simp only at h1 h2 h3 h4 h5 h9
    subst h1 h2 h3 h4 h5
    exact pe_call G (h9.mono hk) (hX.gl hg) hm kp hb .nil pass0 (pa_w hX) hdb (hs es env) (hpl _))
    (ha σ H F at_ _ fun vs H1 F1 a1 x1 d1 => by
      show spR S.K S.tabs ps.length R (vs ++ []) H1 Q E0
      rw [List.append_nil]
      exact ⟨by rw [d1.zlen]; exact hl, F1, ds, d, a1.hf, a1.tabs, d1, hr, fun v H2 F2 x2 hf dv => q v H2 F2 (a1.ex x2 hf) (x1.trans x2) dv⟩)
end
/-- a def's static part -/
def Stat.of (P : Program) (w : World) (K : PySem.W.Frag) (mg : Str → Option Value) (base : Heap) (N : List Str) (sc : Scope) (k : Nat) (tabs : List Addr) (code : Value) (B F0 : Hp) : Stat := ⟨P, w, K, mg, base, N, sc, fun _ => true, k, tabs, code, B, F0⟩
def gm0 (n : Nat) (ds : List PyData) : Gm := ds.map .sh ++ List.replicate (n - ds.length) .un
theorem dp_start {K : PySem.W.Frag} {F : Hp} {n : Nat} : ∀ {vs : List V} {ds : List PyData}, DpAll K F vs ds → ∀ (i : Nat) (d : PyData), (ds.map Sl.sh ++ List.replicate n .un)[i]? = some (.sh d) → ∃ v, (vs.map some ++ List.replicate n (none : Option V))[i]? = some (some v) ∧ Dp K F v d
  | _, _, .nil, i, d, e => by
    simp only [List.map_nil, List.nil_append, List.getElem?_replicate] at e
    split at e <;> cases e
  | _, _, .cons h t, 0, d, e => by
    cases e
    exact ⟨_, rfl, h⟩
  | _, _, .cons h t, i + 1, d, e => dp_start t i d e
theorem gm0_ow {n : Nat} : ∀ {ds : List PyData} {i : Nat} {d : PyData}, (ds.map Sl.sh ++ List.replicate n .un)[i]? ≠ some (.ow d)
  | [], i, d, e => by
    simp only [List.map_nil, List.nil_append, List.getElem?_replicate] at e
    split at e <;> cases e
  | _ :: ds, 0, d, e => by cases e
  | _ :: ds, i + 1, d, e => gm0_ow (ds := ds) (i := i) (d := d) e
/-- a def by its body -/
theorem def_ok {P : Program} {w : World} {K : PySem.W.Frag} {mg : Str → Option Value} {base : Heap} {x qual : Str} {st : Stmt} {f : Addr} {fd : FuncData} {N ps : List Str} {k : Nat} {tabs : List Addr} {R : List PyData → PyData → Prop} (Fn : Fun K x qual st f fd) (Sc : FnScope N ps (defScope st))
    (hbody : ∀ (cdv : Value) (B F0 : Hp) (ds : List PyData) (r : PyData), ds.length = ps.length → R ds r → SJ (Stat.of P w K mg base N (defScope st) k tabs cdv B F0) (gm0 N.length ds) (defBody st) ⟨fun _ => r = .none, fun d => d = r⟩) : FnOk P w K mg base CX0 (k + 1) f fd ps (spR K tabs ps.length R) := by
  refine Fn.ok Sc (fun vs H Q E h => h.1) fun cdv A outer s H vs Q E hr h => ?_
  obtain ⟨hl, F, ds, r, hf, tb, dv, hR, q⟩ := h
  have hX : IsCx (Stat.of P w K mg base N (defScope st) k tabs cdv H F) (cxOf CX0 P w K mg base N qual (defScope st) f cdv A outer s H E).nox :=
    ⟨rfl, rfl, rfl, rfl, rfl, rfl, rfl, rfl, hr, rfl, rfl, rfl⟩
  have hlen : ds.length = ps.length := dv.zlen ▸ hl
  have hpl : ps.length ≤ N.length := by
    have := congrArg List.length Sc.pre
    rw [List.length_take] at this
    omega
  refine ⟨_, pss_w hX, hbody cdv H F ds r hlen hR (L2.start N vs) H F ⟨⟨Ext.refl H, hf, Le.refl F, (fun a o e n => by have n' : F a = none := n; rw [n'] at e; cases e), tb⟩, ?_, fun i d e => ?_, fun i d e => ?_, fun i j d e a h1 => ?_⟩ _ ?_ ?_⟩
  · unfold L2.start gm0
    rw [List.length_append, List.length_append, List.length_map, List.length_map, List.length_replicate, List.length_replicate, dv.zlen]
  · unfold gm0 at e
    unfold L2.start
    rw [dv.zlen]
    exact dp_start dv i d e
  · exact absurd e gm0_ow
  · exact absurd h1 gm0_ow
  · rintro γ' σ' H' F' hn a1 le
    refine q .non H' F' ⟨a1.ext, a1.f0, a1.new⟩ a1.hf ?_
    have : r = .none := hn
    rw [this]; exact .non
  · rintro d v H' F' hd a1 le dv'
    obtain rfl : d = r := hd
    exact q v H' F' ⟨a1.ext, a1.f0, a1.new⟩ a1.hf dv'
end SM

set_option autoImplicit false
set_option Elab.async false
set_option linter.all false
set_option maxRecDepth 100000
set_option maxHeartbeats 4000000
namespace SM
open PySem PySem.Spec PyProof.Rows L2

/-! ### statements against an Option -/
inductive Res (ρ τ : Type) where
  | ret (r : ρ) | nx (t : τ)
def J {α : Type} (S : Stat) (γ : Gm) (ss : List Stmt) (post : α → Post) (o : Option α) : Prop := ∀ x, o = some x → SJ S γ ss (post x)
def pT {ρ : Type} (enc : ρ → PyData) : ρ → Post := fun r => ⟨fun _ => False, fun d => d = enc r⟩
def pN {τ : Type} (γof : τ → Gm) : τ → Post := fun t => ⟨fun γ' => GLe γ' (γof t), fun _ => False⟩
def pM {ρ τ : Type} (enc : ρ → PyData) (γof : τ → Gm) : Res ρ τ → Post
  | .ret r => ⟨fun _ => False, fun d => d = enc r⟩
  | .nx t => ⟨fun γ' => GLe γ' (γof t), fun _ => False⟩
def Post.noNx (p : Post) : Post := ⟨fun _ => False, p.rt⟩
theorem SJ.imp {S : Stat} {γ : Gm} {ss : List Stmt} {p p' : Post} (h : SJ S γ ss p) (h1 : ∀ g, p.nx g → p'.nx g) (h2 : ∀ d, p.rt d → p'.rt d) : SJ S γ ss p' := fun σ H F at_ D k1 k2 =>
  h σ H F at_ D (fun γ' σ' H' F' hn => k1 γ' σ' H' F' (h1 _ hn)) fun d v H' F' hr => k2 d v H' F' (h2 _ hr)
theorem gle_nil : GLe [] [] := trivial
theorem gle_un {x : Sl} {r r' : Gm} (h : GLe r r') : GLe (x :: r) (.un :: r') := h
theorem gle_eq {x : Sl} {r r' : Gm} (h : GLe r r') : GLe (x :: r) (x :: r') := by
  cases x <;> first | exact h | exact ⟨rfl, h⟩
theorem gle_to {x y : Sl} {r r' : Gm} (e : x = y) (h : GLe r r') : GLe (x :: r) (y :: r') := e ▸ gle_eq h
theorem GLe.rfl : ∀ {γ : Gm}, GLe γ γ
  | [] => gle_nil
  | _ :: _ => gle_eq GLe.rfl
section
variable {S : Stat} {γ γ' : Gm} {ss rest sa sb body : List Stmt} {e a b c tg iter elt : Expr} {d : PyData} {ds : List PyData} {pos px : Pos} {α β τ ρ : Type} {post : α → Post} {o : Option α} {is : List Nat}
theorem j_bind {x : Option τ} {f : τ → Option α} (h : ∀ t, x = some t → J S γ ss post (f t)) : J S γ ss post (x.bind f) := fun y hy => by
  obtain ⟨t, h1, h2⟩ := Option.bind_eq_some_iff.mp hy
  exact h t h1 y h2
theorem j_weak {γ2 : Gm} (w : GLe γ γ2) (h : J S γ2 ss post o) : J S γ ss post o := fun x hx => s_weak w (h x hx)
theorem j_ret {x : α} (h : EJ S γ e d) (hp : (post x).rt d) : J S γ (.Return (some e) pos :: rest) post (some x) := fun y hy => by
  cases hy
  exact s_cons (N := fun _ => False) (s1_ret h hp) fun _ z => z.elim
theorem j_nil {x : α} (h : (post x).nx γ) : J S γ [] post (some x) := fun y hy => by cases hy; exact s_nil h
theorem j_set {x : Str} {i : Nat} (n : NmOk S x i) (h : EJ S γ e d) (hs : ∀ X, IsCx S X → swapsWith e (some (.Name x px)) pos.line X.env = pure false) (hr : J S (γ.set i (.sh d)) rest post o) : J S γ (.Assign [.Name x px] e pos :: rest) post o := fun y hy =>
  s_cons (N := fun g => g = γ.set i (.sh d)) (s1_set n h hs rfl) fun g hg => by subst hg; exact hr y hy
theorem j_setF {x : Str} {i : Nat} (n : NmOk S x i) (h : FJ S γ e ds) (hs : ∀ X, IsCx S X → swapsWith e (some (.Name x px)) pos.line X.env = pure false) (hr : J S (γ.set i (.ow (.list ds))) rest post o) : J S γ (.Assign [.Name x px] e pos :: rest) post o := fun y hy =>
  s_cons (N := fun g => g = γ.set i (.ow (.list ds))) (s1_setF n h hs rfl) fun g hg => by subst hg; exact hr y hy
theorem j_setLc {encA : τ → PyData} {encB : β → PyData} {xs : List τ} {ys : List β} {f : τ → Option (Option β)} {x : Str} {i : Nat} {ifs : List Expr} {scope : Scope} {own : List (Str × Nat)} {pl : Pos} (n : NmOk S x i) (hy : S.sc.names.lookup x = some .local)
    (hi : IX S γ tg iter (xs.map encA)) (hb : ∀ x ∈ xs, CBO (S.blk scope) (wipeG γ (own.map (·.2))) tg ifs elt (own.map (·.2)) (encA x) encB (f x)) (hr : compM f xs = some ys)
    (ok : blkC S.N S.sc scope own = true) (h1 : ifs.length ≤ 1) (hs : ∀ (X : Cx) x, foldedSetIterable iter X.env x = pure x) (hli : (px.line == pl.line) = true) (hk : S.sc.kind = .function)
    (hsn : (scope.names.any fun (n, k) => n == x && (k == .local || k == .cell)) = false) (hrest : J S (γ.set i (.ow (.list (ys.map encB)))) rest post o) : J S γ (.Assign [.Name x px] (.ListComp elt [⟨tg, iter, ifs, 0⟩] scope pl) pos :: rest) post o := fun y hyy => by
  obtain ⟨rs, l, g, e⟩ := compM_get hr
  have e2 : (rs.map fun r => r.map encB).filterMap id = ys.map encB := by rw [fm_map, ← e]
  refine s_cons (N := fun g => g = γ.set i (.ow (.list ((rs.map fun r => r.map encB).filterMap id)))) (s1_setLc (outs := rs.map fun r => r.map encB) n hy hi (fun i d hd => ?_) (by rw [List.length_map, List.length_map, l]) ok h1 hs hli hk hsn rfl) fun g hg => by subst hg; rw [e2]; exact hrest y hyy
  rw [List.getElem?_map] at hd
  cases hx : xs[i]? with
  | none => rw [hx] at hd; cases hd
  | some x =>
    rw [hx] at hd
    obtain rfl : encA x = d := Option.some.inj hd
    obtain ⟨r, h2, h3⟩ := g i x hx
    exact ⟨r.map encB, by rw [List.getElem?_map, h2]; rfl, hb x (List.mem_of_getElem? hx) r h3⟩
theorem j_asg (h : EJ S γ e d) (g : GJ S γ tg d γ' is) (hs : ∀ X : Cx, swapsWithSole [tg] e pos.line X.env = pure false) (hw : ∀ X : Cx, swappedStores [tg] e X.env = pure none) (h1 : ∀ X : Cx, (assignEach [tg] X.env).map (·.2) = [assign tg X.env]) (hr : J S γ' rest post o) : J S γ (.Assign [tg] e pos :: rest) post o := fun y hy =>
  s_cons (N := fun g => g = γ') (s1_asg h g hs hw h1 rfl) fun g hg => by subst hg; exact hr y hy
theorem j_mv {x y : Str} {i j : Nat} {py : Pos} (n : NmOk S x i) (hN : S.N[j]? = some y) (hv : Vis S.sc y) (hg : γ[j]? = some (.ow d)) (hd : (y == ("__debug__" : Str)) = false) (hcd : (y == ("__classdict__" : Str)) = false)
    (hr : J S ((γ.set j .un).set i (.ow d)) rest post o) : J S γ (.Assign [.Name x px] (.Name y py) pos :: rest) post o := fun z hz =>
  s_cons (N := fun g => g = (γ.set j .un).set i (.ow d)) (s1_mv n hN hv hg hd hcd rfl) fun g hg => by subst hg; exact hr z hz
theorem j_share {j : Nat} (hg : γ[j]? = some (.ow (.list ds))) (h : J S (γ.set j (.sh (.list ds))) ss post o) : J S γ ss post o := fun y hy => s_share hg (h y hy)
theorem j_expr (h : EJ S γ e d) (hs : ∀ X : Cx, swapsWith e none pos.line X.env = pure false) (hr : J S γ rest post o) : J S γ (.Expr e pos :: rest) post o := fun y hy =>
  s_cons (N := fun g => g = γ) (s1_expr h hs rfl) fun g hg => by subst hg; exact hr y hy
theorem j_app {enc : τ → PyData} {xs : List τ} {v : τ} {x : Str} {j : Nat} {pa pc pn : Pos} (hN : S.N[j]? = some x) (hv : Vis S.sc x) (hg : γ[j]? = some (.ow (.list (xs.map enc)))) (h : EJ S γ e (enc v)) (hz : xs.length < sizeLine) (hs : PlainE e) (hd : (x == ("__debug__" : Str)) = false) (hcd : (x == ("__classdict__" : Str)) = false)
    (hba : ∀ X : Cx, attributeBase (.Name x pn) "append" X.env (eval (.Name x pn) X.env) = eval (.Name x pn) X.env) (hli : (pa.endLine == pc.line) = true) (hr : J S (γ.set j (.ow (.list ((xs ++ [v]).map enc)))) rest post o) : J S γ (.Expr (.Call (.Attribute (.Name x pn) "append" pa) [e] [] pc) pos :: rest) post o := fun y hy =>
  s_cons (N := fun g => g = γ.set j (.ow (.list ((xs ++ [v]).map enc)))) (s1_app hN hv hg h (by rw [List.length_map]; exact hz) hs hd hcd hba hli (by rw [List.map_append]; rfl)) fun g hg => by subst hg; exact hr y hy
theorem map_set {enc : τ → PyData} : ∀ (xs : List τ) (i : Nat) (v : τ), (xs.map enc).set i (enc v) = (xs.set i v).map enc := fun xs i v => (List.map_set ..).symm
theorem j_setix {enc : τ → PyData} {xs : List τ} {v : τ} {x : Str} {j i : Nat} {k : Int} {pn pt : Pos} (hN : S.N[j]? = some x) (hv : Vis S.sc x) (hg : γ[j]? = some (.ow (.list (xs.map enc)))) (h : EJ S γ e (enc v)) (hi : EJ S γ a (.int k)) (hk : ixN xs.length k = some i) (hd : (x == ("__debug__" : Str)) = false) (hcd : (x == ("__classdict__" : Str)) = false)
    (ha : ∀ (X : Cx) v, assign (.Subscript (.Name x pn) a pt) X.env v = (do
      let ov ← holding [v] (eval (.Name x pn) X.env)
      let iv ← holding [v, ov] (eval a X.env)
      standAt pt
      holding [v, ov, iv] (setItem ov iv v)
      release [v, ov, iv] []))
    (hs : ∀ X : Cx, swapsWithSole [.Subscript (.Name x pn) a pt] e pos.line X.env = pure false) (hw : ∀ X : Cx, swappedStores [.Subscript (.Name x pn) a pt] e X.env = pure none) (he : ∀ X : Cx, (assignEach [.Subscript (.Name x pn) a pt] X.env).map (·.2) = [assign (.Subscript (.Name x pn) a pt) X.env])
    (hr : J S (γ.set j (.ow (.list ((xs.set i v).map enc)))) rest post o) : J S γ (.Assign [.Subscript (.Name x pn) a pt] e pos :: rest) post o := fun y hy =>
  s_cons (N := fun g => g = γ.set j (.ow (.list ((xs.set i v).map enc)))) (s1_setix hN hv hg h hi (by rw [List.length_map]; exact hk) hd hcd ha hs hw he (by rw [map_set])) fun g hg => by subst hg; exact hr y hy
/-- if c: .. return; rest -/
theorem j_ifR {k : Bool} {o1 o2 : Option α} (hc : TJ S γ c k) (ha : k = true → J S γ sa (fun x => (post x).noNx) o1) (hr : k = false → J S γ rest post o2) : J S γ (.If c sa [] pos :: rest) post (if k = true then o1 else o2) := fun y hy => by
  cases k with
  | true =>
    rw [if_pos rfl] at hy
    exact s_cons (N := fun _ => False) (s1_if hc (fun _ => (ha rfl y hy).imp (fun _ z => z) fun _ z => z) fun z => by cases z) fun _ z => z.elim
  | false =>
    rw [if_neg Bool.false_ne_true] at hy
    exact s_cons (N := fun g => g = γ) (s1_if hc (fun z => by cases z) fun _ => s_nil rfl) fun g hg => by subst hg; exact hr rfl y hy
/-- if c: .. return; else: .. return -/
theorem j_ifE {k : Bool} {o1 o2 : Option α} (hc : TJ S γ c k) (ha : k = true → J S γ sa (fun x => (post x).noNx) o1) (hb : k = false → J S γ sb (fun x => (post x).noNx) o2) : J S γ (.If c sa sb pos :: rest) post (if k = true then o1 else o2) := fun y hy => by
  cases k with
  | true =>
    rw [if_pos rfl] at hy
    exact s_cons (N := fun _ => False) (s1_if hc (fun _ => (ha rfl y hy).imp (fun _ z => z) fun _ z => z) fun z => by cases z) fun _ z => z.elim
  | false =>
    rw [if_neg Bool.false_ne_true] at hy
    exact s_cons (N := fun _ => False) (s1_if hc (fun z => by cases z) fun _ => (hb rfl y hy).imp (fun _ z => z) fun _ z => z) fun _ z => z.elim
/-- both ways go on -/
theorem j_ifJ {k : Bool} {γj : τ → Gm} {o1 o2 : Option τ} {f : τ → Option α} (hc : TJ S γ c k) (ha : k = true → J S γ sa (pN γj) o1) (hb : k = false → J S γ sb (pN γj) o2) (hr : ∀ t, J S (γj t) rest post (f t)) : J S γ (.If c sa sb pos :: rest) post ((if k = true then o1 else o2).bind f) := fun y hy => by
  obtain ⟨t, h1, h2⟩ := Option.bind_eq_some_iff.mp hy
  refine s_cons (N := fun g => GLe g (γj t)) (s1_if (k := k) hc (fun hk => ?_) fun hk => ?_) fun g hg => s_weak hg (hr t y h2)
  · subst hk
    exact (ha rfl t (by simpa using h1)).imp (fun _ z => z) fun _ z => z.elim
  · subst hk
    exact (hb rfl t (by simpa using h1)).imp (fun _ z => z) fun _ z => z.elim
def Res.elim {ρ τ α : Type} (inj : ρ → α) (f : τ → Option α) : Res ρ τ → Option α
  | .ret r => some (inj r)
  | .nx t => f t
/-- each way goes on or returns -/
theorem j_ifM {k : Bool} {encR : ρ → PyData} {inj : ρ → α} {γj : τ → Gm} {o1 o2 : Option (Res ρ τ)} {f : τ → Option α} (hc : TJ S γ c k) (ha : k = true → J S γ sa (pM encR γj) o1) (hb : k = false → J S γ sb (pM encR γj) o2) (hinj : ∀ r, (post (inj r)).rt (encR r)) (hr : ∀ t, J S (γj t) rest post (f t)) :
    J S γ (.If c sa sb pos :: rest) post ((if k = true then o1 else o2).bind (Res.elim inj f)) := fun y hy => by
  obtain ⟨x, h1, h2⟩ := Option.bind_eq_some_iff.mp hy
  have run : SJ1 S γ (.If c sa sb pos) (pM encR γj x) := s1_if (k := k) hc (fun hk => by subst hk; exact ha rfl x (by simpa using h1)) fun hk => by subst hk; exact hb rfl x (by simpa using h1)
  cases x with
  | ret r =>
    cases h2
    refine s_cons (N := fun _ => False) (fun σ H F at_ D k1 k2 => run σ H F at_ D (fun _ _ _ _ z => z.elim) fun d v H' F' hd => k2 d v H' F' ?_) fun _ z => z.elim
    obtain rfl : d = encR r := hd
    exact hinj r
  | nx t => exact s_cons (N := fun g => GLe g (γj t)) (fun σ H F at_ D k1 k2 => run σ H F at_ D k1 fun _ _ _ _ z => z.elim) fun g hg => s_weak hg (hr t y h2)
theorem GJ.weak {γ2 : Gm} (w : GLe γ γ2) (h : GJ S γ2 tg d γ' is) : GJ S γ tg d γ' is := fun σ H F v at_ dv Q q => h σ H F v (at_.weak w) dv Q q
theorem at_map {enc : τ → PyData} {xs : List τ} {i : Nat} (h : (xs.map enc)[i]? = some d) : ∃ x, xs[i]? = some x ∧ enc x = d := by
  rw [List.getElem?_map] at h
  cases hx : xs[i]? with
  | none => rw [hx] at h; cases h
  | some x => rw [hx] at h; exact ⟨x, rfl, Option.some.inj h⟩
theorem drop_at {xs : List τ} {i : Nat} {x : τ} (h : xs[i]? = some x) : xs.drop i = x :: xs.drop (i + 1) := by
  obtain ⟨hl, e⟩ := List.getElem?_eq_some_iff.mp h
  rw [← e]; exact List.drop_eq_getElem_cons hl
/-- for, that goes on -/
theorem j_for {enc : τ → PyData} {xs : List τ} {γ0 : β → Gm} {t0 : β} {f : β → τ → Option β} {k : β → Option α} (hi : IF S γ tg iter (xs.map enc)) (h0 : GLe γ (γ0 t0))
    (hb : ∀ t, ∀ x ∈ xs, ∃ γ2 is, GJ S (γ0 t) tg (enc x) γ2 is ∧ J S γ2 body (pN γ0) (f t x)) (hr : ∀ t, J S (γ0 t) rest post (k t)) (hs : ∀ (X : Cx) x, foldedSetIterable iter X.env x = pure x) : J S γ (.For tg iter body [] pos :: rest) post ((xs.foldlM f t0).bind k) := fun y hy => by
  obtain ⟨t1, h1, h2⟩ := Option.bind_eq_some_iff.mp hy
  refine s_cons (N := fun g => GLe g (γ0 t1)) (s1_for hi (fun i g => ∃ t, GLe g (γ0 t) ∧ (xs.drop i).foldlM f t = some t1) ⟨t0, h0, h1⟩ ?_ ?_ hs) fun g hg => s_weak hg (hr t1 y h2)
  · rintro i d g hd ⟨t, hg, hf⟩
    obtain ⟨x, hx, rfl⟩ := at_map hd
    rw [drop_at hx, List.foldlM_cons] at hf
    obtain ⟨t', h3, h4⟩ := Option.bind_eq_some_iff.mp hf
    obtain ⟨γ2, is, g1, g2⟩ := hb t x (List.mem_of_getElem? hx)
    exact ⟨γ2, is, g1.weak hg, (g2 t' h3).imp (fun g hg => ⟨t', hg, h4⟩) fun _ z => z.elim⟩
  · rintro g ⟨t, hg, hf⟩
    rw [List.length_map, List.drop_length] at hf
    cases hf
    exact hg
def foldR {ρ τ β : Type} (f : β → τ → Option (Res ρ β)) : β → List τ → Option (Res ρ β)
  | t, [] => some (.nx t)
  | t, x :: xs => (f t x).bind (Res.elim .ret fun t' => foldR f t' xs)
/-- for, with a return within -/
theorem j_forR {enc : τ → PyData} {xs : List τ} {encR : ρ → PyData} {inj : ρ → α} {γ0 : β → Gm} {t0 : β} {f : β → τ → Option (Res ρ β)} {k : β → Option α} (hi : IF S γ tg iter (xs.map enc)) (h0 : GLe γ (γ0 t0))
    (hb : ∀ t, ∀ x ∈ xs, ∃ γ2 is, GJ S (γ0 t) tg (enc x) γ2 is ∧ J S γ2 body (pM encR γ0) (f t x)) (hinj : ∀ r, (post (inj r)).rt (encR r)) (hr : ∀ t, J S (γ0 t) rest post (k t)) (hs : ∀ (X : Cx) x, foldedSetIterable iter X.env x = pure x) :
    J S γ (.For tg iter body [] pos :: rest) post ((foldR f t0 xs).bind (Res.elim inj k)) := fun y hy => by
  obtain ⟨r1, h1, h2⟩ := Option.bind_eq_some_iff.mp hy
  have run : SJ1 S γ (.For tg iter body [] pos) (pM encR γ0 r1) := by
    refine s1_for hi (fun i g => ∃ t, GLe g (γ0 t) ∧ foldR f t (xs.drop i) = some r1) ⟨t0, h0, h1⟩ ?_ ?_ hs
    · rintro i d g hd ⟨t, hg, hf⟩
      obtain ⟨x, hx, rfl⟩ := at_map hd
      rw [drop_at hx] at hf
      unfold foldR at hf
      obtain ⟨t', h3, h4⟩ := Option.bind_eq_some_iff.mp hf
      obtain ⟨γ2, is, g1, g2⟩ := hb t x (List.mem_of_getElem? hx)
      refine ⟨γ2, is, g1.weak hg, ?_⟩
      cases t' with
      | ret r =>
        cases h4
        exact (g2 _ h3).imp (fun _ z => z.elim) fun _ z => z
      | nx t2 => exact (g2 _ h3).imp (fun g hg => ⟨t2, hg, h4⟩) fun _ z => z.elim
    · rintro g ⟨t, hg, hf⟩
      rw [List.length_map, List.drop_length] at hf
      cases hf
      exact hg
  cases r1 with
  | ret r =>
    cases h2
    refine s_cons (N := fun _ => False) (fun σ H F at_ D k1 k2 => run σ H F at_ D (fun _ _ _ _ z => z.elim) fun d v H' F' hd => k2 d v H' F' ?_) fun _ z => z.elim
    obtain rfl : d = encR r := hd
    exact hinj r
  | nx t => exact s_cons (N := fun g => GLe g (γ0 t)) (fun σ H F at_ D k1 k2 => run σ H F at_ D k1 fun _ _ _ _ z => z.elim) fun g hg => s_weak hg (hr t y h2)
def whileR {ρ β : Type} (c : β → Option Bool) (f : β → Option (Res ρ β)) : Nat → β → Option (Res ρ β)
  | 0, _ => none
  | n + 1, t => (c t).bind fun k => if k = true then (f t).bind (Res.elim .ret (whileR c f n)) else some (.nx t)
/-- while, of n turns at most -/
theorem j_while {encR : ρ → PyData} {inj : ρ → α} {γ0 : β → Gm} {t0 : β} {n : Nat} {cc : β → Option Bool} {f : β → Option (Res ρ β)} {k : β → Option α} (h0 : GLe γ (γ0 t0)) (hc : ∀ t b, cc t = some b → TJ S (γ0 t) c b)
    (hb : ∀ t, cc t = some true → J S (γ0 t) body (pM encR γ0) (f t)) (hinj : ∀ r, (post (inj r)).rt (encR r)) (hr : ∀ t, J S (γ0 t) rest post (k t)) :
    J S γ (.While c body [] pos :: rest) post ((whileR cc f n t0).bind (Res.elim inj k)) := fun y hy => by
  obtain ⟨r1, h1, h2⟩ := Option.bind_eq_some_iff.mp hy
  have run : SJ1 S γ (.While c body [] pos) (pM encR γ0 r1) := by
    refine s1_while (fun m g => ∃ t, GLe g (γ0 t) ∧ whileR cc f m t = some r1) (n := n) ⟨t0, h0, h1⟩ ?_
    rintro m g ⟨t, hg, hf⟩
    cases m with
    | zero => cases hf
    | succ m =>
      unfold whileR at hf
      obtain ⟨b, h3, h4⟩ := Option.bind_eq_some_iff.mp hf
      refine ⟨b, fun σ H F at_ Q q => hc t b h3 σ H F (at_.weak hg) Q fun H' F' a1 x1 => q H' F' (at_.ex x1 a1.hf) x1, fun hb1 => ?_, fun hb1 => ?_⟩
      · subst hb1
        rw [if_pos rfl] at h4
        obtain ⟨t', h5, h6⟩ := Option.bind_eq_some_iff.mp h4
        refine s_weak hg ?_
        cases t' with
        | ret r =>
          cases h6
          exact (hb t h3 _ h5).imp (fun _ z => z.elim) fun _ z => z
        | nx t2 => exact (hb t h3 _ h5).imp (fun g hg => ⟨m, Nat.lt_succ_self m, t2, hg, h6⟩) fun _ z => z.elim
      · subst hb1
        rw [if_neg Bool.false_ne_true] at h4
        cases h4
        exact hg
  cases r1 with
  | ret r =>
    cases h2
    refine s_cons (N := fun _ => False) (fun σ H F at_ D k1 k2 => run σ H F at_ D (fun _ _ _ _ z => z.elim) fun d v H' F' hd => k2 d v H' F' ?_) fun _ z => z.elim
    obtain rfl : d = encR r := hd
    exact hinj r
  | nx t => exact s_cons (N := fun g => GLe g (γ0 t)) (fun σ H F at_ D k1 k2 => run σ H F at_ D k1 fun _ _ _ _ z => z.elim) fun g hg => s_weak hg (hr t y h2)
end
end SM

set_option autoImplicit false
set_option Elab.async false
set_option linter.all false
set_option maxRecDepth 100000
set_option maxHeartbeats 4000000
namespace SM
open PySem PySem.Spec PyProof.Rows L2

/-! ### t[::-1] of a tuple -/
section
variable {prog : Program} {w : World} {A : Around} {E : Value → Shared → Prop} {s : Shared}
theorem slice_back {sl : Addr} {vl vu vs : Value} {n : Nat} {Q : Int × Int × Nat → Shared → Prop} (hs : s.heap.IsSliceOf sl vl vu vs) (pl : IsPart vl none) (pu : IsPart vu none) (ps : IsPart vs (some (-1)))
    (h : Q ((n : Int) - 1, -1, n) s) : wpAny (model prog w) A (Builtin.Slice.sliceApplied (.ref sl) (pure (n : Int))) Q E s := by
  obtain ⟨os, e1, e2, e3⟩ := hs
  unfold Builtin.Slice.sliceApplied Builtin.Slice.sliceFields
  refine wpAny_bind (wpAny_bind (wpAny_field e1 e3 (x := vl) rfl (wpAny_bind (wpAny_field e1 e3 (x := vu) rfl (wpAny_bind (wpAny_field e1 e3 (x := vs) rfl (wpAny_pure ?_)))))))
  refine wpAny_bind (HT.slicePart_ ps ?_)
  show wpAny _ _ (if ((-1 : Int) == 0) = true then _ else _) _ _ s
  rw [if_neg (by decide)]
  refine wpAny_bind (HT.slicePart_ pl (wpAny_bind (HT.slicePart_ pu (wpAny_bind (wpAny_pure ?_)))))
  have ea : Builtin.Slice.sliceAdjust none none (-1) (n : Int) = ((n : Int) - 1, -1) := by
    unfold Builtin.Slice.sliceAdjust
    simp
  have eb : Builtin.Slice.slicePlaces ((n : Int) - 1) (-1) (-1) = n := by
    unfold Builtin.Slice.slicePlaces
    simp
    omega
  show wpAny _ _ (match Builtin.Slice.sliceAdjust none none (-1) (n : Int) with | (lo, hi) => pure (lo, (-1 : Int), Builtin.Slice.slicePlaces lo hi (-1))) _ _ s
  rw [ea]
  show wpAny _ _ (pure ((n : Int) - 1, (-1 : Int), Builtin.Slice.slicePlaces ((n : Int) - 1) (-1) (-1))) _ _ s
  rw [eb]
  exact wpAny_pure h
theorem fm_congr {f g : Nat → Option Value} : ∀ (m : Nat) (_ : True), (∀ k, k < m → f k = g k) → (List.range m).filterMap f = (List.range m).filterMap g
  | 0, _, _ => rfl
  | m + 1, t, h => by
    rw [List.range_succ, List.filterMap_append, List.filterMap_append, fm_congr m t fun k hk => h k (Nat.lt_succ_of_lt hk)]
    rw [List.filterMap_cons, List.filterMap_cons, h m (Nat.lt_succ_self m), List.filterMap_nil, List.filterMap_nil]
theorem fm_take (l : List Value) : ∀ (m : Nat), m ≤ l.length → (List.range m).filterMap (fun k => l[k]?) = l.take m
  | 0, _ => rfl
  | m + 1, hm => by
    rw [List.range_succ, List.filterMap_append, fm_take l m (by omega), List.take_add_one]
    congr 1
theorem pick_back (xs : Array Value) : ((List.range xs.size).filterMap fun (k : Nat) => xs[((xs.size : Int) - 1 + (k : Int) * (-1)).toNat]?).toArray = xs.toList.reverse.toArray := by
  congr 1
  have : ((List.range xs.size).filterMap fun (k : Nat) => xs[((xs.size : Int) - 1 + (k : Int) * (-1)).toNat]?) = (List.range xs.size).filterMap fun k => xs.toList.reverse[k]? := by
    exact fm_congr _ trivial fun k hk => by
      have e : ((xs.size : Int) - 1 + (k : Int) * (-1)).toNat = xs.size - 1 - k := by omega
      rw [e, List.getElem?_reverse (by simpa using hk), Array.length_toList, Array.getElem?_toList]
  rw [this, fm_take _ _ (by simp), List.take_of_length_le (by simp)]
theorem getItem_back {t sl : Addr} {items : Array Value} {vl vu vs : Value} {Q : Value → Shared → Prop} (ht : IsTup s.heap t items) (hs : s.heap.IsSliceOf sl vl vu vs) (pl : IsPart vl none) (pu : IsPart vu none) (ps : IsPart vs (some (-1)))
    (h : Q (.ref s.heap.objs.size) { s with heap := s.heap.push { cls := .type "tuple", data := .seq items.toList.reverse.toArray } })
    (hz : items.size ≤ sizeLine) : wpAny (model prog w) A (getItem (.ref t) (.ref sl)) Q E s := by
  have hok : sizeOk (.seq items.toList.reverse.toArray) := by
    show items.toList.reverse.toArray.size ≤ sizeLine
    rw [List.size_toArray, List.length_reverse, Array.length_toList]
    exact hz
  obtain ⟨os, e1, e2, e3⟩ := id hs
  have hTs : s.TypeIs (.ref sl) "slice" := ⟨os, e1, e2⟩
  unfold getItem
  try with_reducible refine wpAny_holding ?_
  first | refine wpAny_bind (wpAny_pure ?_) | skip
  refine wpAny_bind (wpAny_sequenceKey ht.typeIs (by decide) ?_)
  refine wpAny_bind (wpAny_callSpecial?_slot (name := Str.ofString "__getitem__") ht.typeIs slot_tuple_getitem (wpAny_call_entry slot_tuple_getitem ht.typeIs entry_tuple_getitem ?_ (args_tuple_getitem _ _)))
  show wpAny _ _ (Builtin.Tuple.tupleItemsOf (.ref t) >>= _) _ _ s
  refine wpAny_bind (tupleItemsOf_ ht ?_)
  refine wpAny_bind (wpAny_typeOf hTs ?_)
  rw [if_pos (by decide)]
  refine wpAny_bind (slice_back hs pl pu ps ?_)
  show wpAny _ _ (if (((items.size : Int) - 1) == 0 && (-1 : Int) == 1 && items.size == items.size) = true then _ else _) _ _ s
  rw [if_neg (by simp), pick_back]
  first
    | exact wpAny_bind (m := Builtin.Tuple.tupleExact _) (wpAny_newObj_type (wpAny_pure ⟨_, rfl, wpAny_pure h⟩) hok)
    | exact wpAny_bind (m := Builtin.Tuple.tupleExact _) (wpAny_newObj_type (wpAny_bind (wpAny_pure (wpAny_pure ⟨_, rfl, wpAny_pure h⟩))) hok)
    | exact wpAny_bind (wpAny_bind (m := Builtin.Tuple.tupleExact _) (wpAny_newObj_type (wpAny_pure (wpAny_pure ⟨_, rfl, wpAny_pure h⟩)) hok))
    | exact wpAny_bind (wpAny_bind (m := Builtin.Tuple.tupleExact _) (wpAny_newObj_type (wpAny_pure ⟨_, rfl, wpAny_pure h⟩) hok))
end
def tRevT (K : PySem.W.Frag) (te : TE) : TE := fun σ H Q => te σ H fun x H1 => ∃ a xs, x = .ref a ∧ SqT K H1 a xs ∧ ∀ p, H1 p = none → Q (.ref p) (upd H1 p (.tup xs.reverse))
theorem pe_revT {X : Cx} {e : Expr} {te : TE} {k : Nat} {p1 p2 p3 pos : Pos} (he : PE X e te) : PE X (.Subscript e (.Slice none none (some (.UnaryOp .USub (.Constant (.int 1) k p1) p2)) p3) pos) (tRevT X.K te) := by
  refine ⟨fun pins s σ H Q I h => Subscript_ (thn (he.run pins s σ H _ I h) fun v s1 ⟨x, H1, I1, r1, q1⟩ => ?_)⟩
  obtain ⟨a, xs, rfl, hx, q⟩ := q1
  cases r1
  have hst : PO X (some (.UnaryOp .USub (.Constant (.int 1) k p1) p2)) (tPart (tUn (rU fun i => .int (-i)) (tC (.int 1)))) := po_some (pe_un un_neg pe_int)
  refine wpAny_Slice (thn (po_none.run pins s1 σ H1 (fun o H2 => o = none ∧ H2 = H1) I1 ⟨rfl, rfl⟩) fun vl s2 ⟨l, H2, I2, pl, el, e2⟩ => ?_)
  subst el e2
  refine thn (po_none.run pins s2 σ H2 (fun o H3 => o = none ∧ H3 = H2) I2 ⟨rfl, rfl⟩) fun vu s3 ⟨u, H3, I3, pu, eu, e3⟩ => ?_
  subst eu e3
  refine thn (hst.run pins s3 σ H3 (fun o H4 => o = some (-1) ∧ H4 = H3) I3 ⟨1, rfl, -1, rfl, rfl, rfl⟩) fun vs s4 ⟨o, H4, I4, ps, eo, e4⟩ => ?_
  subst eo e4
  have I5 : Inv X pins σ H4 { s4 with heap := s4.heap.push { cls := .type "slice", data := .fields #[vl, vu, vs] } } := I4.kept (t' := s4.toks) fun b ob q => Heap.get?_push_of_some _ q
  obtain ⟨its, r, ht, hz⟩ := I5.tuple hx
  have hlen := r.length
  show wpAny (model X.prog X.w) X.A (subscriptTail e (.Slice none none (some (.UnaryOp .USub (.Constant (.int 1) k p1) p2)) p3) (.ref a) (.ref s4.heap.objs.size)) (EP X pins σ Q) X.xe { s4 with heap := s4.heap.push { cls := .type "slice", data := .fields #[vl, vu, vs] } }
  refine tail_any (ops := [.ref a, .ref s4.heap.objs.size]) ht.typeIs slot_tuple_getitem.lookup ?_ (by with_unfolding_all rfl)
  refine getItem_back ht (Heap.IsSliceOf.new _ vl vu vs) pl pu ps ?_ (by rw [List.size_toArray]; omega)
  refine ⟨.ref _, _, I5.laid (t' := s4.toks) (o := .tup xs.reverse) (fun b ob q => Heap.get?_push_of_some _ q) (Nat.le_refl _) ?_, rfl, q _ (I5.hok.fresh (Nat.le_refl _))⟩
  exact ⟨by rw [List.length_reverse]; exact hz, _, r.reverse, IsTup.new _ _⟩
section
variable {S : Stat} {γ : Gm} {e a b c c2 tg iter : Expr} {d : PyData} {ds es : List PyData} {pos p : Pos}
theorem e_revT {k : Nat} {p1 p2 p3 : Pos} (ha : EJ S γ a (.tuple ds)) : EJ S γ (.Subscript a (.Slice none none (some (.UnaryOp .USub (.Constant (.int 1) k p1) p2)) p3) pos) (.tuple ds.reverse) := fun σ H F at_ Q q =>
  wE_of (t := tRevT S.K (wE S a)) (fun X hX => hX.K ▸ pe_revT (pe_w hX)) (ha σ H F at_ _ fun v H1 F1 a1 x1 dv => by
    cases dv with
    | @tup q1 vs _ h1 h2 =>
    refine ⟨q1, vs, rfl, a1.hf.le.sqT h1, fun p2 hp => ?_⟩
    have x4 : Ex2 H1 F1 (upd H1 p2 (.tup vs.reverse)) (upd F1 p2 (.tup vs.reverse)) := ex_new a1.hf hp
    exact q _ _ _ (a1.ex x4 (a1.hf.new hp fun _ z => by cases z)) (x1.trans x4) (.tup (SqT.of upd_same) (h2.zrev.zmono x4.f)))
theorem e_revTT {α : Type} {enc : α → PyData} {xs : List α} {k : Nat} {p1 p2 p3 : Pos} (ha : EJ S γ a (.tuple (xs.map enc))) : EJ S γ (.Subscript a (.Slice none none (some (.UnaryOp .USub (.Constant (.int 1) k p1) p2)) p3) pos) (.tuple (xs.reverse.map enc)) := by
  rw [List.map_reverse]; exact e_revT ha
theorem f_revL {α : Type} {enc : α → PyData} {xs : List α} {k : Nat} {p1 p2 p3 : Pos} (ha : QJ S γ a .l (xs.map enc)) : FJ S γ (.Subscript a (.Slice none none (some (.UnaryOp .USub (.Constant (.int 1) k p1) p2)) p3) pos) (xs.reverse.map enc) := by
  rw [List.map_reverse]; exact f_rev ha

/-! ### sum, max, min of a tuple of ints -/
end
section
variable {prog : Program} {w : World} {A : Around} {E : Value → Shared → Prop} {s : Shared} {l : Addr} {its : List Value} {ns : List Int} {Q : Value → Shared → Prop}
theorem iter_tupW (hh : A.handled = none) {xs : Array (Int × Tok)} (hl : s.heap.IsTuple l (intItems xs)) {R : Value → Shared → Prop}
    (h : ∀ I s2, (∀ b o, s.heap.get? b = some o → s2.heap.get? b = some o) → s2 = { s with heap := s2.heap } → I = s.heap.objs.size → (∀ b ∈ [I, l], b < s2.heap.objs.size) → (s2.heap.IsTupleIter I l 0 ∧ s2.heap.IsTuple l (intItems xs)) → l ≠ I → R (.ref I) s2) : wpAny (model prog w) A (pyIter (.ref l)) R E s := by
  refine wpAny_pyIter_tuple hl ?_
  have hlt : l < s.heap.objs.size := by obtain ⟨o, ho, _⟩ := hl; exact Heap.lt_size ho
  refine h _ _ (fun b o q => Heap.get?_push_of_some _ q) rfl rfl (fun b hb => ?_) ⟨⟨_, Heap.get?_push_size _ rfl, rfl, rfl⟩, hl.push _⟩ (Nat.ne_of_lt hlt)
  show b < (s.heap.push _).objs.size
  rw [Heap.size_push]
  rcases List.mem_cons.mp hb with rfl | hb
  · exact Nat.lt_succ_self _
  · rcases List.mem_cons.mp hb with rfl | hb
    · exact Nat.lt_succ_of_lt hlt
    · cases hb
theorem kept_wr {s s2 : Shared} {h' : Heap} {I : Addr} (hI : I = s.heap.objs.size) (k1 : ∀ b o, s.heap.get? b = some o → s2.heap.get? b = some o) (k : ∀ b o, b ∉ [I] → s2.heap.get? b = some o → h'.get? b = some o) : ∀ b o, s.heap.get? b = some o → h'.get? b = some o := fun b o e =>
  k b o (fun hm => by
    have h1 := Heap.lt_size e
    rw [List.mem_singleton.mp hm, hI] at h1
    exact Nat.lt_irrefl _ h1) (k1 b o e)
theorem sum_tup (hh : A.handled = none) (hl : s.heap.IsTuple l its.toArray) (hi : IntsAre its ns)
    (h : ∀ h' tk t', (∀ b o, s.heap.get? b = some o → h'.get? b = some o) → Q (.int ns.sum t') { s with heap := h', toks := tk }) : wpAny (model prog w) A (call (.builtin "sum") [.ref l]) Q E s := by
  obtain ⟨xs, e⟩ := hi.allInts.items
  have hn : numsOf (intItems xs).toList = ns := by rw [← e]; exact hi.numsOf
  rw [nums_intItems] at hn
  rw [e] at hl
  refine call_sum_walkG (iter_tupW (A := A.in1) hh hl fun I s2 k1 es hI hfp st hne => ?_)
  refine ⟨_, _, _, _, _, _, numAt xs, rfl, Walks.tuple (A := A.in1) hh _ l hne (intItems xs), st, hfp, (fun _ _ => intItems_at), fun h' tk t' hk => ?_⟩
  have := h h' tk t' (kept_wr hI k1 hk)
  rw [es]
  have e9 : preSum (numAt xs) (intItems xs).size = ns.sum := by
    rw [preSum_eq, List.take_of_length_le (by simp [intItems]), hn]
  rw [e9]; exact this
theorem max_tup (hh : A.handled = none) (hl : s.heap.IsTuple l its.toArray) (hi : IntsAre its ns) (hne : 0 < ns.length)
    (h : ∀ h' tk M t', (∀ b o, s.heap.get? b = some o → h'.get? b = some o) → M ∈ ns → (∀ a, a ∈ ns → a ≤ M) → Q (.int M t') { s with heap := h', toks := tk }) : wpAny (model prog w) A (call (.builtin "max") [.ref l]) Q E s := by
  obtain ⟨xs, e⟩ := hi.allInts.items
  have hn : numsOf (intItems xs).toList = ns := by rw [← e]; exact hi.numsOf
  rw [nums_intItems] at hn
  subst hn
  rw [e] at hl
  have hsz : 0 < xs.size := by simpa using hne
  refine call_max_walk (iter_tupW (A := A.in1) hh hl fun I s2 k1 es hI hfp st hne2 => ?_)
  refine ⟨_, _, _, _, _, _, _, rfl, Walks.tuple (A := A.in1) hh _ l hne2 (intItems xs), st, hfp, by simpa [intItems] using hsz, CmpOf.ints_gt (numAt xs) (fun _ _ => intItems_at), fun v h' tk hP hk => ?_⟩
  obtain ⟨t, rfl⟩ := intItems_at hP
  have hs0 : (intItems xs).size - 1 = xs.size - 1 := by simp [intItems]
  rw [hs0]
  obtain ⟨h1, h2⟩ := argBest_gt (numAt xs) (xs.size - 1)
  rw [es]
  refine h h' tk _ t (kept_wr hI k1 hk) ?_ fun a ha => ?_
  · rw [numAt_eq]; exact PySem.getD_mem (by rw [List.length_map, Array.length_toList]; omega)
  · obtain ⟨j, hj, rfl⟩ := mem_getD ha
    rw [List.length_map, Array.length_toList] at hj
    rw [← numAt_eq]; exact h2 j (by omega)
end
section
variable {S : Stat} {γ : Gm} {a : Expr} {pos p : Pos}
def rSumT (K : PySem.W.Frag) : List V → Hp → VK → Prop := fun vs H Q => ∃ (a : Addr) (ns : List Int), vs = [V.ref a] ∧ SqT K H a (ns.map V.int) ∧ Q (.int ns.sum) H
theorem cr_sumT {X : Cx} (hc : X.calm = true) : CallR X (.builtin "sum") (rSumT X.K) := by
  intro pins s σ H vs us Q I r h
  obtain ⟨a, ns, rfl, hs, q⟩ := h
  obtain ⟨its, rv, hl, _⟩ := I.tuple hs
  rw [Vals.ref1 r]
  exact sum_tup (I.ok.hd hc) hl rv.ints fun h' tk t' hk => ⟨.int _, H, I.kept hk, ⟨_, rfl⟩, q⟩
theorem e_sumT {ns : List Int} (hg : IsGl S "sum") (hm : S.mg "sum" = none) (ha : EJ S γ a (.tuple (ns.map .int))) (hs : PlainE a) : EJ S γ (.Call (.Name "sum" p) [a] [] pos) (.int ns.sum) :=
  w_b1 (r := rSumT S.K) (fun X hX => hX.K ▸ cr_sumT hX.calm) hg hm boot_sum hs ha.qt (fun v H0 F0 H F Q at_ x ⟨q, vs, e1, h1, h2⟩ k2 => by
    subst e1
    obtain rfl := DpAll.ints h2
    exact ⟨q, ns, rfl, h1, k2 _ H F at_.hf (Ex2.refl H F) (.int _)⟩) (by decide) (by decide)
def rMaxT (K : PySem.W.Frag) : List V → Hp → VK → Prop := fun vs H Q => ∃ (a : Addr) (ns : List Int), vs = [V.ref a] ∧ SqT K H a (ns.map V.int) ∧ 0 < ns.length ∧ ∀ m, m ∈ ns → (∀ y, y ∈ ns → y ≤ m) → Q (.int m) H
theorem cr_maxT {X : Cx} (hc : X.calm = true) : CallR X (.builtin "max") (rMaxT X.K) := by
  intro pins s σ H vs us Q I r h
  obtain ⟨a, ns, rfl, hs, hne, q⟩ := h
  obtain ⟨its, rv, hl, _⟩ := I.tuple hs
  rw [Vals.ref1 r]
  exact max_tup (I.ok.hd hc) hl rv.ints hne fun h' tk m t' hk h1 h2 => ⟨.int _, H, I.kept hk, ⟨_, rfl⟩, q m h1 h2⟩
theorem e_maxT {ns : List Int} {m : Int} (hg : IsGl S "max") (hm : S.mg "max" = none) (ha : EJ S γ a (.tuple (ns.map .int))) (he : ns.max? = some m) (hs : PlainE a) : EJ S γ (.Call (.Name "max" p) [a] [] pos) (.int m) :=
  w_b1 (r := rMaxT S.K) (fun X hX => hX.K ▸ cr_maxT hX.calm) hg hm boot_max hs ha.qt (fun v H0 F0 H F Q at_ x ⟨q, vs, e1, h1, h2⟩ k2 => by
    subst e1
    obtain rfl := DpAll.ints h2
    obtain ⟨he1, he2⟩ := List.max?_eq_some_iff.mp he
    refine ⟨q, ns, rfl, h1, List.length_pos_of_mem he1, fun m' hm' hle => ?_⟩
    obtain rfl : m' = m := Int.le_antisymm (he2 m' hm') (hle m he1)
    exact k2 _ H F at_.hf (Ex2.refl H F) (.int _)) (by decide) (by decide)
end
end SM

set_option autoImplicit false
set_option Elab.async false
set_option linter.all false
set_option maxRecDepth 100000
set_option maxHeartbeats 4000000
namespace SM
open PySem PySem.Spec PyProof.Rows L2

/-! ### enumerate of a tuple -/
theorem meets_enum1 {v : Value} {o : Obj} {H : Heap → Prop} (B : Begins v o H) :
    Meets (Builtin.«enumerate.__new__» ⟨[.type "enumerate", v], []⟩) (fun _ R s => H s.heap ∧
      R (.ok (.ret (.ref (s.heap.push o).objs.size))) { s with heap := (s.heap.push o).push { cls := .type "enumerate", data := .fields #[.none, .bool false, .ref s.heap.objs.size, rawInt 0, .none, .none] } }) :=
  .of_wp fun prog w A R s h => by
    obtain ⟨hp, g, d, tk, os⟩ := s; obtain ⟨h1, h⟩ := h
    have hsub := sub_enumerate
    have q1 : ∀ {A' : Around} {E : Value → Shared → Prop} {Q : Value → Shared → Prop}, Q (.ref hp.objs.size) ⟨hp.push o, g, d, tk, os⟩ → wpAny (model prog w) A' (pyIter v) Q E ⟨hp, g, d, tk, os⟩ :=
      fun q => B.iter prog w _ _ ⟨hp, g, d, tk, os⟩ _ h1 q
    wp_walk using q1
    refine wpAny_stack_any fun st => wpAny_pure ?_
    split
    · rename_i c _ _ _ _ _
      cases (c == Value.type "enumerate")
      · wp_walk using q1
        exact ⟨_, rfl, h⟩
      · wp_walk using q1
        exact ⟨_, rfl, h⟩
    · wp_walk using q1
      exact ⟨_, rfl, h⟩
theorem call_enum1 {prog : Program} {w : World} {A : Around} {E : Value → Shared → Prop} {s : Shared} {v : Value} {o : Obj} {H : Heap → Prop} {Q : Value → Shared → Prop} (B : Begins v o H) (h1 : H s.heap)
    (h : ∀ h', IsEnum h' (s.heap.objs.size + 1) s.heap.objs.size 0 .none → h'.get? s.heap.objs.size = some o → h'.objs.size = s.heap.objs.size + 2 → (∀ b o, s.heap.get? b = some o → h'.get? b = some o) → Q (.ref (s.heap.objs.size + 1)) { s with heap := h' }) :
    wpAny (model prog w) A (call (.type "enumerate") [v]) Q E s := by
  refine callType_new F.called_enumerate (by decide) (F.typeCall_enumerate_1 _) (F.newCall_enumerate_1 _) (fun obj => F.args_object_init_2 obj _) F.entry_enumerate_new (meets_enum1 B) ⟨h1, ?_⟩
  have hz : (s.heap.push o).objs.size = s.heap.objs.size + 1 := Heap.size_push ..
  show _ ∧ _
  rw [hz]
  have he : IsEnum ((s.heap.push o).push { cls := .type "enumerate", data := .fields #[.none, .bool false, .ref s.heap.objs.size, rawInt 0, .none, .none] }) (s.heap.objs.size + 1) s.heap.objs.size 0 .none := by
    have e := Heap.get?_push_size (s.heap.push o) (o := { cls := .type "enumerate", data := .fields #[.none, .bool false, .ref s.heap.objs.size, rawInt 0, .none, .none] }) rfl
    rw [hz] at e; exact e
  exact ⟨⟨_, he, rfl⟩, h _ he (Heap.get?_push_of_some _ (Heap.get?_push_size _ B.free)) (by rw [Heap.size_push, hz]) fun b u x => Heap.get?_push_of_some _ (Heap.get?_push_of_some _ x)⟩
def IteT (K : PySem.W.Frag) (a : Addr) : It :=
  ⟨fun i H => ∃ (xs : List V) (x : V), SqT K H a xs ∧ xs[i]? = some x, fun i H v H' => ∃ T x, v = .ref T ∧ H T = none ∧ H' = upd H T (.tup [.int (i : Nat), x]) ∧ ∀ xs, SqT K H a xs → xs[i]? = some x, fun i H => ∃ xs : List V, SqT K H a xs ∧ xs.length = i⟩
theorem turn_enumT {P : Program} {w : World} {K : PySem.W.Frag} {elts : List Expr} {kk : Nat} {tpos : Pos} (a e it : Addr) :
    Turn P w K (.Tuple elts kk tpos) (IteT K a) [e, it] e (fun i h => (∃ old, IsEnum h e it ((i : Nat) : Int) old) ∧ h.IsTupleIter it a i ∧ e ≠ it ∧ a ≠ e ∧ a ≠ it) where
  mem := List.mem_cons_self
  obj := fun i h st b hb => by
    obtain ⟨⟨old, he⟩, ⟨o, ho, hc, hd⟩, _⟩ := st
    rcases List.mem_cons.mp hb with z | z
    · rw [z]; exact ⟨_, he, fun v q => nomatch q⟩
    · rw [List.mem_singleton.mp z]; exact ⟨o, ho, fun v q => by rw [hd] at q; cases q⟩
  keep := fun i h h' st k => by
    obtain ⟨⟨old, he⟩, hi, hne⟩ := st
    exact ⟨⟨old, k e List.mem_cons_self _ he⟩, hi.at fun o q => k it (List.mem_cons_of_mem _ List.mem_cons_self) o q, hne⟩
  item := by
    intro X hP hw hK hc i pins s σ H E I hf st hg
    subst hP hw hK
    obtain ⟨⟨old, he⟩, hit, hne, hae, hai⟩ := st
    obtain ⟨xs, x, hq, hx⟩ := hg
    obtain ⟨its, rv, p, hz⟩ := I.tuple hq
    obtain ⟨u, hu, ru⟩ := rv.get hx
    have hlen := rv.length
    have hel : e < s.heap.objs.size := Heap.lt_size he
    have hil : it < s.heap.objs.size := by obtain ⟨_, q, _⟩ := hit; exact Heap.lt_size q
    have hlt : i < its.toArray.size := by
      obtain ⟨h1, _⟩ := List.getElem?_eq_some_iff.mp hu
      rw [List.size_toArray]; exact h1
    refine wpAny_pyNext_enum_itemD (Draws.tuple (A := X.A.in1) (I.ok.hd hc) it a hai its.toArray) he ⟨hit, show s.heap.IsTuple a its.toArray from p⟩ hlt hne (fun z => by
      rcases List.mem_cons.mp z with z | z
      · exact hne z
      · exact hae (List.mem_singleton.mp z).symm) fun y h' tk hy ho hst' hT hsz hk => ?_
    obtain rfl : u = y := by
      have hy' : its.toArray[i]? = some y := hy
      rw [List.getElem?_toArray, hu] at hy'
      exact Option.some.inj hy'
    refine ⟨_, rfl, wpAny_letOwnedTupleGo_enum (s := { s with heap := h', toks := tk + 1 }) ho fun h'' he' sb => ?_⟩
    have hT2 : h''.get? s.heap.objs.size = some { cls := .type "tuple", data := .seq #[.int i tk, u] } := (sb.2 _ (Nat.ne_of_gt hel)).trans hT
    have new : ObjOk X.prog X.w (upd H s.heap.objs.size (.tup [.int (i : Nat), x])) h'' s.heap.objs.size (.tup [.int (i : Nat), x]) :=
      ⟨by show 2 ≤ sizeLine; decide, [.int i tk, u], .cons ⟨_, rfl⟩ (.cons ru .nil), ⟨_, hT2, rfl, _, rfl⟩⟩
    have ch : ∀ b, b ∉ [e, it] → b ≠ e ∧ b ≠ it := fun b hb => ⟨fun z => hb (by rw [z]; exact List.mem_cons_self), fun z => hb (by rw [z]; exact List.mem_cons_of_mem _ List.mem_cons_self)⟩
    have I1 : Inv X pins σ (upd H s.heap.objs.size (.tup [.int (i : Nat), x])) { s with heap := h'', toks := tk + 1 } :=
      I.turnedNew (ch := [e, it]) (fun b ob hb q => (sb.2 b (ch b hb).1).trans (hk b ob (ch b hb).1 (ch b hb).2 q)) hf (Nat.le_refl _) new
    refine ⟨.ref s.heap.objs.size, _, I1, rfl, ⟨_, x, rfl, I.hok.fresh (Nat.le_refl _), rfl, fun ys hy => by rw [I.tuple_inj hy hq]; exact hx⟩, ⟨⟨u, ?_⟩, hst'.1.at fun o q => (sb.2 it (Ne.symm hne)).trans q, hne, hae, hai⟩, fun b hb => ?_⟩
    · have e1 : ((i + 1 : Nat) : Int) = (i : Int) + 1 := by omega
      rw [e1]; exact he'
    · have hb' : b < s.heap.objs.size := by
        rcases List.mem_cons.mp hb with z | z
        · rw [z]; exact hel
        · rw [List.mem_singleton.mp z]; exact hil
      rw [upd_ne (Nat.ne_of_lt hb')]
      exact (hf b hb).1
  done := by
    intro X hP hw hK hc i pins s σ H E I hf st hg
    subst hP hw hK
    obtain ⟨⟨old, he⟩, hit, hne, hae, hai⟩ := st
    obtain ⟨xs, hq, hx⟩ := hg
    obtain ⟨its, rv, p, hz⟩ := I.tuple hq
    obtain ⟨f0, f1, f2, f3, f4, f5⟩ := hf it (List.mem_cons_of_mem _ List.mem_cons_self)
    have hl : i = its.toArray.size := by rw [List.size_toArray, ← rv.length]; exact hx.symm
    have hst2 : s.heap.IsTupleIter it a its.toArray.size ∧ s.heap.IsTuple a its.toArray := ⟨hl ▸ hit, p⟩
    exact wpAny_pyNext_enum_endD (Draws.tuple (A := X.A.in1) (I.ok.hd hc) it a hai its.toArray) he hst2 fun h' eb => ⟨rfl, I.turned (t' := s.toks) (fun b o hb q => eb b o hb q) f0 f1 f3 f4 f5⟩
  self := fun A i s Q E st h => by
    obtain ⟨⟨_, he⟩, _⟩ := st
    exact wpAny_pyIter_enum he h

def iEnumT (K : PySem.W.Frag) (ta : TA) : TI := fun σ H R => ta σ H fun vs H1 => ∃ a xs, vs = [.ref a] ∧ SqT K H1 a xs ∧ R (IteT K a) H1
theorem pi_enumT {X : Cx} {e : Expr} {ta : TA} {p pos tpos : Pos} {elts : List Expr} {kk : Nat} (hg : Gl X "enumerate") (hm : X.mg "enumerate" = none) (ha : PA X [e] ta) (hs : starEach [e] X.env = [(false, eval e X.env)]) :
    PI X (.Tuple elts kk tpos) (.Call (.Name "enumerate" p) [e] [] pos) (iEnumT X.K ta) := by
  refine ⟨fun pins s σ H R I h => Call_ (ld_blt I hg hm boot_enumerate (PyProof.Rows.callWith_type1 (thn (ha.run pos pins s σ H _ I h) fun us s1 ⟨vs, H1, I1, r1, q1⟩ => ?_) hs rfl))⟩
  obtain ⟨a, xs, rfl, hq, q⟩ := q1
  obtain ⟨u, rfl, r⟩ := vals1 r1
  cases r
  obtain ⟨its, rv, p', hz⟩ := I1.tuple hq
  have hal : a < s1.heap.objs.size := p'.lt
  refine call_enum1 (begins_tuple a its.toArray) (show s1.heap.IsTuple a its.toArray from p') fun h' he hit hsz hk => wpAny_pyIter_enum he ?_
  have I2 : Inv X pins σ H1 { s1 with heap := h' } := I1.kept (t' := s1.toks) hk
  refine ⟨s1.heap.objs.size + 1, [s1.heap.objs.size + 1, s1.heap.objs.size], _, _, H1, rfl, I2, turn_enumT a (s1.heap.objs.size + 1) s1.heap.objs.size,
    ⟨⟨.none, he⟩, ⟨_, hit, rfl, rfl⟩, Nat.succ_ne_self _, Nat.ne_of_lt (Nat.lt_succ_of_lt hal), Nat.ne_of_lt hal⟩, fun b hb => ?_, q⟩
  have hle : s1.heap.objs.size ≤ b := by
    rcases List.mem_cons.mp hb with z | z
    · rw [z]; exact Nat.le_add_right _ _
    · rw [List.mem_singleton.mp z]; exact Nat.le_refl _
  exact I1.fpOk hle (I1.hok.fresh hle)
theorem walk_enumT {K : PySem.W.Frag} {a : Addr} {xs : List V} : Walk (IteT K a) xs.length (fun H => SqT K H a xs) (YPair (fun i => some (.int (i : Nat))) (fun i => xs[i]?)) := by
  refine ⟨fun i _ hi q => ⟨xs, xs[i], q, List.getElem?_eq_getElem hi⟩, fun _ q => ⟨xs, q, rfl⟩, fun i H v H' _ q y => ?_⟩
  obtain ⟨T, x, h1, h2, h3, h4⟩ := y
  exact ⟨T, .int (i : Nat), x, h1, h2, h3, rfl, h4 xs q⟩
/-! ### what is walked, further -/
def enumD (ds : List PyData) : List PyData := ds.mapIdx fun i d => .tuple [.int (i : Int), d]
theorem enumD_len (ds : List PyData) : (enumD ds).length = ds.length := List.length_mapIdx
section
variable {S : Stat} {γ : Gm} {tg iter a b : Expr} {d : PyData} {ds es items : List PyData} {pos p tpos : Pos} {elts : List Expr} {kk : Nat}
theorem yd_enum {K : PySem.W.Frag} {F : Hp} {vs : List V} (h : DpAll K F vs ds) : ∀ i H x H', i < ds.length → YPair (fun i => some (.int (i : Nat))) (fun i => vs[i]?) i H x H' → YD K F (enumD ds) i H x H' := fun i H x H' hi ⟨T, u, v, e1, e2, e3, e4, e5⟩ => by
  obtain ⟨d, h1, h2⟩ := h.zget' e5
  have e4' : u = .int (i : Nat) := (Option.some.inj e4).symm
  refine ⟨.tuple [.int (i : Int), d], ?_, .inr ⟨T, [u, v], [.int (i : Int), d], e2, e3, e1, rfl, .cons ?_ (.cons h2 .nil)⟩⟩
  · unfold enumD; rw [List.getElem?_mapIdx, h1]; rfl
  · rw [e4']; exact .int _
theorem i_enumL (hg : IsGl S "enumerate") (hm : S.mg "enumerate" = none) (h : QJ S γ a .l ds) (hs : PlainE a) : IX S γ (.Tuple elts kk tpos) (.Call (.Name "enumerate" p) [a] [] pos) (enumD ds) := fun σ H F at_ R q =>
  wI_of (t := iEnum S.K (tCons (wE S a) tNil)) (fun X hX => hX.K ▸ pi_enum (hX.gl hg) (hX.mgn hm) (pa_cons (pe_w hX) pa_nil (hs [] X.env)) (hs [] X.env)) (h.sz σ H F at_ _ fun v H1 F1 a1 x1 ⟨⟨q1, vs, e1, h1, h2⟩, sz⟩ => by
    subst e1
    refine ⟨q1, vs, rfl, h1, q _ H1 F1 a1 x1 (by rw [enumD_len, ← h2.zlen]; exact sz q1 vs .l h1) ?_⟩
    rw [enumD_len, ← h2.zlen]
    exact walk_enum.mono (fun H' e => SqX.ext (k := .l) e h1) (by rw [h2.zlen]; exact fun i H x H' hi _ y => yd_enum h2 i H x H' hi y))
theorem i_enumS (hg : IsGl S "enumerate") (hm : S.mg "enumerate" = none) (h : EJ S γ a (.list ds)) (hs : PlainE a) : IF S γ (.Tuple elts kk tpos) (.Call (.Name "enumerate" p) [a] [] pos) (enumD ds) := fun σ H F at_ R q =>
  wI_of (t := iEnum S.K (tCons (wE S a) tNil)) (fun X hX => hX.K ▸ pi_enum (hX.gl hg) (hX.mgn hm) (pa_cons (pe_w hX) pa_nil (hs [] X.env)) (hs [] X.env)) (h.sz σ H F at_ _ fun v H1 F1 a1 x1 ⟨dv, sz⟩ => by
    cases dv with
    | @lst q1 vs _ h1 h2 =>
    refine ⟨q1, vs, rfl, a1.hf.le.sqL h1, q _ H1 F1 a1 x1 (by rw [enumD_len, ← h2.zlen]; exact sz q1 vs .l (a1.hf.le.sqL h1)) ?_⟩
    rw [enumD_len, ← h2.zlen]
    exact walk_enum.mono (fun H' e => e.sqL h1) (by rw [h2.zlen]; exact fun i H x H' hi _ y => yd_enum h2 i H x H' hi y))
theorem i_enumT (hg : IsGl S "enumerate") (hm : S.mg "enumerate" = none) (h : EJ S γ a (.tuple ds)) (hs : PlainE a) : IF S γ (.Tuple elts kk tpos) (.Call (.Name "enumerate" p) [a] [] pos) (enumD ds) := fun σ H F at_ R q =>
  wI_of (t := iEnumT S.K (tCons (wE S a) tNil)) (fun X hX => hX.K ▸ pi_enumT (hX.gl hg) (hX.mgn hm) (pa_cons (pe_w hX) pa_nil (hs [] X.env)) (hs [] X.env)) (h.sz σ H F at_ _ fun v H1 F1 a1 x1 ⟨dv, sz⟩ => by
    cases dv with
    | @tup q1 vs _ h1 h2 =>
    refine ⟨q1, vs, rfl, a1.hf.le.sqT h1, q _ H1 F1 a1 x1 (by rw [enumD_len, ← h2.zlen]; exact sz q1 vs .t (a1.hf.le.sqT h1)) ?_⟩
    rw [enumD_len, ← h2.zlen]
    exact walk_enumT.mono (fun H' e => e.sqT h1) (by rw [h2.zlen]; exact fun i H x H' hi _ y => yd_enum h2 i H x H' hi y))
/-- zip of two tuples -/
def zipD (ds es : List PyData) : List PyData := (ds.zip es).map fun p => .tuple [p.1, p.2]
theorem zipD_len (ds es : List PyData) : (zipD ds es).length = min ds.length es.length := by unfold zipD; rw [List.length_map, List.length_zip]
theorem yd_zip {K : PySem.W.Frag} {F : Hp} {vs us : List V} (h : DpAll K F vs ds) (h' : DpAll K F us es) : ∀ i H x H', YPair (fun i => vs[i]?) (fun i => us[i]?) i H x H' → YD K F (zipD ds es) i H x H' := fun i H x H' ⟨T, u, v, e1, e2, e3, e4, e5⟩ => by
  obtain ⟨d, h1, h2⟩ := h.zget' e4
  obtain ⟨d', h3, h4⟩ := h'.zget' e5
  refine ⟨.tuple [d, d'], ?_, .inr ⟨T, [u, v], [d, d'], e2, e3, e1, rfl, .cons h2 (.cons h4 .nil)⟩⟩
  unfold zipD
  rw [List.getElem?_map, (List.getElem?_zip_eq_some (z := (d, d'))).mpr ⟨h1, h3⟩]
  rfl
theorem walk_zipT {K : PySem.W.Frag} {a b : Addr} {xs ys : List V} {n : Nat} (hn : n = min xs.length ys.length) : Walk (RZ.ItzT K a b) n (fun H => SqT K H a xs ∧ SqT K H b ys) (YPair (fun i => xs[i]?) (fun i => ys[i]?)) := by
  subst hn
  refine ⟨fun i _ hi q => ?_, fun _ q => ⟨xs, ys, q.1, q.2, by omega⟩, fun i H v H' _ q y => ?_⟩
  · have h1 : i < xs.length := by omega
    have h2 : i < ys.length := by omega
    exact ⟨xs, ys, xs[i], ys[i], q.1, q.2, List.getElem?_eq_getElem h1, List.getElem?_eq_getElem h2⟩
  · obtain ⟨T, x, z, h1, h2, h3, h4, h5⟩ := y
    exact ⟨T, x, z, h1, h2, h3, h4 xs q.1, h5 ys q.2⟩
theorem i_zipT (hg : IsGl S "zip") (hm : S.mg "zip" = none) (ha : EJ S γ a (.tuple ds)) (hb : EJ S γ b (.tuple es)) (hs : PlainE a) (hs2 : PlainE b) (hpl : ∀ X : Cx, (backTo pos (starEach [b] X.env)).any (·.1) = false) : IF S γ (.Tuple elts kk tpos) (.Call (.Name "zip" p) [a, b] [] pos) (zipD ds es) := fun σ H F at_ R q =>
  wI_of (t := RZ.iZipA S.K (tCons (wE S a) (tCons (wE S b) tNil))) (fun X hX => hX.K ▸ RZ.pi_zipA (hX.gl hg) (hX.mgn hm) (pa_cons (pe_w hX) (pa_cons (pe_w hX) pa_nil (hs2 [] X.env)) (hs [b] X.env)) (hs [b] X.env) (hpl X)) (ha.sz σ H F at_ _ fun v H1 F1 a1 x1 ⟨dv, sz⟩ => hb σ H1 F1 a1 _ fun u H2 F2 a2 x2 du => by
    cases dv with
    | @tup q1 vs _ h1 h2 =>
    cases du with
    | @tup q2 us _ k1 k2 =>
    have h1' := x2.f.sqT h1
    refine ⟨q1, q2, vs, us, rfl, .inr ⟨a2.hf.le.sqT h1', a2.hf.le.sqT k1, q _ H2 F2 a2 (x1.trans x2) ?_ ?_⟩⟩
    · rw [zipD_len, ← h2.zlen]
      exact Nat.le_trans (Nat.min_le_left _ _) (sz q1 vs .t (a1.hf.le.sqT h1))
    · exact (walk_zipT (xs := vs) (ys := us) (by rw [zipD_len, h2.zlen, k2.zlen])).mono (fun H' e => ⟨e.sqT h1', e.sqT k1⟩) fun i H x H' hi _ y => yd_zip (h2.zmono x2.f) k2 i H x H' y)
end

/-! ### a < b < c < d -/
section
variable {S : Stat} {γ : Gm} {a b c e : Expr} {pos : Pos}
theorem pe_chain3 {X : Cx} {op1 op2 op3 : CmpOp} {g1 g2 g3 : Int → Int → Bool} (ho1 : OpR X (compareOp op1) (rI0 fun i j => .bl (g1 i j))) (ho2 : OpR X (compareOp op2) (rI0 fun i j => .bl (g2 i j))) (ho3 : OpR X (compareOp op3) (rI0 fun i j => .bl (g3 i j))) {ta tb tc te : TE} (ha : PE X a ta) (hb : PE X b tb) (hc : PE X c tc) (he : PE X e te)
    (hm : lastMarks [op1, op2, op3] [b, c, e] = false) : PT X (.Compare a [op1, op2, op3] [b, c, e] pos) (fun σ H Q => ta σ H fun x H1 => tb σ H1 fun y H2 => ∃ i j, x = .int i ∧ y = .int j ∧
      if g1 i j = true then tc σ H2 fun z H3 => ∃ k, z = .int k ∧ if g2 j k = true then te σ H3 fun u H4 => ∃ l, u = .int l ∧ Q (g3 k l) H4 else Q false H3 else Q false H2) := by
  refine ⟨fun pins s σ H Q I h => ?_⟩
  refine isTrue_chain (thn (ha.run pins s σ H _ I h) fun v s1 ⟨x, H1, I1, r1, q1⟩ => test_link (thn (hb.run pins s1 σ H1 _ I1 q1) fun u s2 ⟨y, H2, I2, r2, i, j, ei, ej, q2⟩ => ?_)) hm
  subst ei; subst ej
  refine thn (ho1 pins s2 σ H2 _ _ v u (fun d H' => d = .bl (g1 i j) ∧ H' = H2) I2 r1 r2 ⟨i, j, rfl, rfl, rfl, rfl⟩) fun d s3 ⟨z, H3, I3, r3, ez, eh⟩ => ?_
  subst ez; subst eh
  cases r3
  refine wpAny_truthy_bool ?_
  cases hg1 : g1 i j with
  | false => rw [hg1, if_neg Bool.false_ne_true] at q2; exact ite_ff ⟨H3, I3, q2⟩
  | true =>
    rw [hg1, if_pos rfl] at q2
    refine ite_tt (test_link (thn (hc.run pins s3 σ H3 _ I3 q2) fun w' s4 ⟨z', H4, I4, r4, k, ek, q4⟩ => ?_))
    subst ek
    refine thn (ho2 pins s4 σ H4 _ _ u w' (fun d H' => d = .bl (g2 j k) ∧ H' = H4) I4 r2 r4 ⟨j, k, rfl, rfl, rfl, rfl⟩) fun d s5 ⟨z5, H5, I5, r5, ez, eh⟩ => ?_
    subst ez; subst eh
    cases r5
    refine wpAny_truthy_bool ?_
    cases hg2 : g2 j k with
    | false => rw [hg2, if_neg Bool.false_ne_true] at q4; exact ite_ff ⟨H5, I5, q4⟩
    | true =>
      rw [hg2, if_pos rfl] at q4
      refine ite_tt (test_last (thn (he.run pins s5 σ H5 _ I5 q4) fun w6 s6 ⟨z6, H6, I6, r6, l, el, q6⟩ => ?_))
      subst el
      refine thn (ho3 pins s6 σ H6 _ _ w' w6 (fun d H' => d = .bl (g3 k l) ∧ H' = H6) I6 r4 r6 ⟨k, l, rfl, rfl, rfl, rfl⟩) fun d s7 ⟨z7, H7, I7, r7, ez, eh⟩ => ?_
      subst ez; subst eh
      cases r7
      exact wpAny_truthy_bool ⟨H7, I7, q6⟩
theorem t_chain3 {op1 op2 op3 : CmpOp} {g1 g2 g3 : Int → Int → Bool} {x y z u : Int} (ho1 : ∀ X : Cx, OpR X (compareOp op1) (rI0 fun i j => .bl (g1 i j))) (ho2 : ∀ X : Cx, OpR X (compareOp op2) (rI0 fun i j => .bl (g2 i j))) (ho3 : ∀ X : Cx, OpR X (compareOp op3) (rI0 fun i j => .bl (g3 i j)))
    (ha : EJ S γ a (.int x)) (hb : EJ S γ b (.int y)) (hc : EJ S γ c (.int z)) (he : EJ S γ e (.int u)) (hm : lastMarks [op1, op2, op3] [b, c, e] = false) : TJ S γ (.Compare a [op1, op2, op3] [b, c, e] pos) (g1 x y && (g2 y z && g3 z u)) := fun σ H F at_ Q q =>
  wT_of (fun X hX => pe_chain3 (ho1 X) (ho2 X) (ho3 X) (pe_w hX) (pe_w hX) (pe_w hX) (pe_w hX) hm) (ha σ H F at_ _ fun v H1 F1 a1 x1 d1 => hb σ H1 F1 a1 _ fun w H2 F2 a2 x2 d2 => by
    cases d1; cases d2
    refine ⟨x, y, rfl, rfl, ?_⟩
    cases h1 : g1 x y with
    | false => rw [if_neg Bool.false_ne_true]; rw [h1] at q; exact q H2 F2 a2 (x1.trans x2)
    | true =>
      rw [if_pos rfl]
      refine hc σ H2 F2 a2 _ fun v3 H3 F3 a3 x3 d3 => ?_
      cases d3
      refine ⟨z, rfl, ?_⟩
      cases h2 : g2 y z with
      | false => rw [if_neg Bool.false_ne_true]; rw [h1, h2] at q; exact q H3 F3 a3 ((x1.trans x2).trans x3)
      | true =>
        rw [if_pos rfl]
        refine he σ H3 F3 a3 _ fun v4 H4 F4 a4 x4 d4 => ?_
        cases d4
        rw [h1, h2] at q
        exact ⟨u, rfl, q H4 F4 a4 (((x1.trans x2).trans x3).trans x4)⟩)
end
end SM

set_option autoImplicit false
set_option Elab.async false
set_option linter.all false
set_option maxRecDepth 100000
set_option maxHeartbeats 4000000
namespace SM
open PySem PySem.Spec PyProof.Rows L2

/-! ### the data of typed values -/
abbrev eI : Int → PyData := PyData.int
abbrev eB : Bool → PyData := PyData.bool
abbrev eS : Str → PyData := PyData.str
abbrev eN : Unit → PyData := fun _ => .none
abbrev eD : PyData → PyData := fun d => d
abbrev eL {α : Type} (e : α → PyData) (xs : List α) : PyData := .list (xs.map e)
abbrev eT {α : Type} (e : α → PyData) (xs : List α) : PyData := .tuple (xs.map e)
abbrev eO {α : Type} (e : α → PyData) : Option α → PyData
  | none => .none
  | some x => e x
abbrev eP2 {α β : Type} (e1 : α → PyData) (e2 : β → PyData) (p : α × β) : PyData := .tuple [e1 p.1, e2 p.2]
abbrev eP3 {α β γ : Type} (e1 : α → PyData) (e2 : β → PyData) (e3 : γ → PyData) (p : α × β × γ) : PyData := .tuple [e1 p.1, e2 p.2.1, e3 p.2.2]
abbrev eP4 {α β γ δ : Type} (e1 : α → PyData) (e2 : β → PyData) (e3 : γ → PyData) (e4 : δ → PyData) (p : α × β × γ × δ) : PyData := .tuple [e1 p.1, e2 p.2.1, e3 p.2.2.1, e4 p.2.2.2]
theorem isN_oT {α : Type} {e : α → PyData} {x : Option (List α)} : isN (eO (eT e) x) = x.isNone := by cases x <;> rfl
theorem isN_oL {α : Type} {e : α → PyData} {x : Option (List α)} : isN (eO (eL e) x) = x.isNone := by cases x <;> rfl
theorem isN_oI {x : Option Int} : isN (eO eI x) = x.isNone := by cases x <;> rfl
theorem isN_oP2 {α β : Type} {e1 : α → PyData} {e2 : β → PyData} {x : Option (α × β)} : isN (eO (eP2 e1 e2) x) = x.isNone := by cases x <;> rfl
theorem isN_oP3 {α β γ : Type} {e1 : α → PyData} {e2 : β → PyData} {e3 : γ → PyData} {x : Option (α × β × γ)} : isN (eO (eP3 e1 e2 e3) x) = x.isNone := by cases x <;> rfl
theorem isN_oP4 {α β γ δ : Type} {e1 : α → PyData} {e2 : β → PyData} {e3 : γ → PyData} {e4 : δ → PyData} {x : Option (α × β × γ × δ)} : isN (eO (eP4 e1 e2 e3 e4) x) = x.isNone := by cases x <;> rfl

/-! ### what may fail -/
def mulO (x y : Int) : Option Int := if (-2 ^ 64 < x ∧ x < 2 ^ 64) ∨ (-2 ^ 64 < y ∧ y < 2 ^ 64) then some (x * y) else none
theorem mulO_c {x y z : Int} (h : mulO x y = some z) : CMul x y ∧ x * y = z := by
  unfold mulO at h
  split at h
  · exact ⟨by assumption, Option.some.inj h⟩
  · cases h
def fdivO (x y : Int) : Option Int := if 0 < y ∧ y < 1073741824 then some (x / y) else none
theorem fdivO_c {x y z : Int} (h : fdivO x y = some z) : CDiv x y ∧ x / y = z := by
  unfold fdivO at h
  split at h
  · exact ⟨by assumption, Option.some.inj h⟩
  · cases h
def modO (x y : Int) : Option Int := if 0 < y then some (x % y) else none
theorem modO_c {x y z : Int} (h : modO x y = some z) : 0 < y ∧ x % y = z := by
  unfold modO at h
  split at h
  · exact ⟨by assumption, Option.some.inj h⟩
  · cases h
def powO (x y : Int) : Option Int := if 0 ≤ y ∧ y ≤ 1000000 ∧ x.natAbs < 2 ^ 64 then some (x ^ y.toNat) else none
theorem powO_c {x y z : Int} (h : powO x y = some z) : CPow x y ∧ x ^ y.toNat = z := by
  unfold powO at h
  split at h
  · exact ⟨by assumption, Option.some.inj h⟩
  · cases h
def catO {α : Type} (xs ys : List α) : Option (List α) := if xs.length + ys.length ≤ 16777216 then some (xs ++ ys) else none
theorem catO_c {α : Type} {xs ys zs : List α} (h : catO xs ys = some zs) : xs.length + ys.length ≤ sizeLine ∧ xs ++ ys = zs := by
  unfold catO at h
  split at h
  · exact ⟨by assumption, Option.some.inj h⟩
  · cases h
def appO {α : Type} (xs : List α) (x : α) : Option (List α) := if xs.length < 16777216 then some (xs ++ [x]) else none
theorem appO_c {α : Type} {xs zs : List α} {x : α} (h : appO xs x = some zs) : xs.length < sizeLine ∧ xs ++ [x] = zs := by
  unfold appO at h
  split at h
  · exact ⟨by assumption, Option.some.inj h⟩
  · cases h
def repO {α : Type} (x : α) (n : Int) : Option (List α) := if n ≤ 16777216 ∧ -16777216 ≤ n then some (List.replicate n.toNat x) else none
theorem repO_c {α : Type} {x : α} {n : Int} {zs : List α} (h : repO x n = some zs) : (n ≤ 16777216 ∧ -16777216 ≤ n) ∧ List.replicate n.toNat x = zs := by
  unfold repO at h
  split at h
  · exact ⟨by assumption, Option.some.inj h⟩
  · cases h
def rngO (lo hi : Int) : Option (List Int) := if -8388608 ≤ lo ∧ lo ≤ 8388608 ∧ -8388608 ≤ hi ∧ hi ≤ 8388608 then some (rng lo hi) else none
theorem rngO_c {lo hi : Int} {xs : List Int} (h : rngO lo hi = some xs) : RgB lo hi ∧ rng lo hi = xs := by
  unfold rngO at h
  split at h
  · exact ⟨by assumption, Option.some.inj h⟩
  · cases h
def andO (x y : Option Bool) : Option Bool := x.bind fun k => if k = true then y else some false
def orO (x y : Option Bool) : Option Bool := x.bind fun k => if k = true then some true else y
def enumI {α : Type} (xs : List α) : List (Int × α) := xs.mapIdx fun i x => ((i : Int), x)
theorem enumD_map {α : Type} {e : α → PyData} {xs : List α} : enumD (xs.map e) = (enumI xs).map (eP2 eI e) := by
  unfold enumD enumI
  apply List.ext_getElem?
  intro i
  simp only [List.getElem?_mapIdx, List.getElem?_map]
  cases xs[i]? <;> rfl
theorem zipD_map {α β : Type} {e1 : α → PyData} {e2 : β → PyData} {xs : List α} {ys : List β} : zipD (xs.map e1) (ys.map e2) = (xs.zip ys).map (eP2 e1 e2) := by
  unfold zipD
  rw [List.zip_map, List.map_map]
  rfl
section
variable {S : Stat} {γ : Gm} {a b c e tg iter : Expr} {rest es : List Expr} {pos p : Pos} {d : PyData} {ds : List PyData} {k : SK} {α β τ : Type} {enc : α → PyData}
theorem e_mulO {x y z : Int} (ha : EJ S γ a (.int x)) (hb : EJ S γ b (.int y)) (h : mulO x y = some z) : EJ S γ (.BinOp a .Mult b pos) (.int z) := by
  obtain ⟨h1, h2⟩ := mulO_c h
  subst h2; exact e_mul ha hb h1
theorem e_fdivO {x y z : Int} (ha : EJ S γ a (.int x)) (hb : EJ S γ b (.int y)) (h : fdivO x y = some z) : EJ S γ (.BinOp a .FloorDiv b pos) (.int z) := by
  obtain ⟨h1, h2⟩ := fdivO_c h
  subst h2; exact e_fdiv ha hb h1
theorem e_modO {x y z : Int} (ha : EJ S γ a (.int x)) (hb : EJ S γ b (.int y)) (h : modO x y = some z) : EJ S γ (.BinOp a .Mod b pos) (.int z) := by
  obtain ⟨h1, h2⟩ := modO_c h
  subst h2; exact e_mod ha hb h1
theorem e_powO {x y z : Int} (ha : EJ S γ a (.int x)) (hb : EJ S γ b (.int y)) (h : powO x y = some z) : EJ S γ (.BinOp a .Pow b pos) (.int z) := by
  obtain ⟨h1, h2⟩ := powO_c h
  subst h2; exact e_pow ha hb h1
theorem f_catO {xs ys zs : List α} (ha : QJ S γ a .l (xs.map enc)) (hb : QJ S γ b .l (ys.map enc)) (h : catO xs ys = some zs) : FJ S γ (.BinOp a .Add b pos) (zs.map enc) := by
  obtain ⟨h1, h2⟩ := catO_c h
  subst h2; exact f_catT ha hb h1
theorem e_catO {xs ys zs : List α} (ha : EJ S γ a (.tuple (xs.map enc))) (hb : EJ S γ b (.tuple (ys.map enc))) (h : catO xs ys = some zs) : EJ S γ (.BinOp a .Add b pos) (.tuple (zs.map enc)) := by
  obtain ⟨h1, h2⟩ := catO_c h
  subst h2; exact e_catTT ha hb h1
theorem f_repO {x : α} {n : Int} {zs : List α} (ha : FJ S γ a [enc x]) (hb : EJ S γ b (.int n)) (h : repO x n = some zs) : FJ S γ (.BinOp a .Mult b pos) (zs.map enc) := by
  obtain ⟨h1, h2⟩ := repO_c h
  subst h2
  rw [List.map_replicate]
  exact f_rep ha hb h1.1 h1.2
theorem i_range1O {y : Int} {xs : List Int} (hg : IsGl S "range") (hm : S.mg "range" = none) (ha : EJ S γ a (.int y)) (hs : PlainE a) (h : rngO 0 y = some xs) : IF S γ tg (.Call (.Name "range" p) [a] [] pos) (xs.map eI) := by
  obtain ⟨h1, h2⟩ := rngO_c h
  subst h2; exact i_range1 hg hm ha hs h1
theorem i_range2O {x y : Int} {xs : List Int} (hg : IsGl S "range") (hm : S.mg "range" = none) (ha : EJ S γ a (.int x)) (hb : EJ S γ b (.int y)) (hs : PlainE a) (hs2 : PlainE b) (h : rngO x y = some xs) : IF S γ tg (.Call (.Name "range" p) [a, b] [] pos) (xs.map eI) := by
  obtain ⟨h1, h2⟩ := rngO_c h
  subst h2; exact i_range2 hg hm ha hb hs hs2 h1
theorem FJ.of {ds' : List PyData} (h : FJ S γ e ds) (e1 : ds = ds') : FJ S γ e ds' := e1 ▸ h
theorem QJ.of {ds' : List PyData} (h : QJ S γ e k ds) (e1 : ds = ds') : QJ S γ e k ds' := e1 ▸ h
theorem IW.of {G : Hp → Hp → Hp → Prop} {ds' : List PyData} (h : IW G S γ tg iter ds) (e1 : ds = ds') : IW G S γ tg iter ds' := e1 ▸ h
theorem TJ.of {k k' : Bool} (h : TJ S γ e k) (e1 : k = k') : TJ S γ e k' := e1 ▸ h
/-- an Option that is there -/
theorem EJ.some {o : Option α} {x : α} (h : EJ S γ e (eO enc o)) (e1 : o = some x) : EJ S γ e (enc x) := by subst e1; exact h
theorem EJ.into {x : α} (h : EJ S γ e (enc x)) : EJ S γ e (eO enc (Option.some x)) := h
/-! tests that may fail -/
def TOp (S : Stat) (γ : Gm) (e : Expr) (o : Option Bool) : Prop := ∀ k, o = some k → TJ S γ e k
def WOp (S : Stat) (γ : Gm) (e : Expr) (o : Option Bool) : Prop := ∀ k, o = some k → WJ S γ e k
theorem to_some {k : Bool} (h : TJ S γ a k) : TOp S γ a (some k) := fun y hy => by cases hy; exact h
theorem to_bind {o : Option τ} {f : τ → Option Bool} (h : ∀ t, o = some t → TOp S γ a (f t)) : TOp S γ a (o.bind f) := fun y hy => by
  obtain ⟨t, h1, h2⟩ := Option.bind_eq_some_iff.mp hy
  exact h t h1 y h2
theorem to_w {o : Option Bool} (h : WOp S γ a o) : TOp S γ a o := fun y hy => t_w (h y hy)
theorem to_not {o : Option Bool} (h : TOp S γ a o) : TOp S γ (.UnaryOp .Not a pos) (o.map not) := fun y hy => by
  cases o with
  | none => cases hy
  | some k => cases hy; exact t_not (h k rfl)
theorem wo_and1 {o : Option Bool} (h : TOp S γ a o) : WOp S γ (.BoolOp .And [a] pos) o := fun y hy => w_and1 (h y hy)
theorem wo_or1 {o : Option Bool} (h : TOp S γ a o) : WOp S γ (.BoolOp .Or [a] pos) o := fun y hy => w_or1 (h y hy)
theorem wo_and {o o2 : Option Bool} (h : TOp S γ a o) (h2 : o = some true → WOp S γ (.BoolOp .And (b :: rest) pos) o2) : WOp S γ (.BoolOp .And (a :: b :: rest) pos) (andO o o2) := fun y hy => by
  cases o with
  | none => cases hy
  | some k =>
    cases k with
    | true =>
      have hy : o2 = some y := hy
      exact w_and (k := true) (h true rfl) fun _ => h2 rfl y hy
    | false =>
      cases hy
      exact w_and (k := false) (l := true) (h false rfl) fun z => by cases z
theorem wo_or {o o2 : Option Bool} (h : TOp S γ a o) (h2 : o = some false → WOp S γ (.BoolOp .Or (b :: rest) pos) o2) : WOp S γ (.BoolOp .Or (a :: b :: rest) pos) (orO o o2) := fun y hy => by
  cases o with
  | none => cases hy
  | some k =>
    cases k with
    | true =>
      cases hy
      exact w_or (k := true) (l := true) (h true rfl) fun z => by cases z
    | false =>
      have hy : o2 = some y := hy
      have := w_or (k := false) (l := y) (pos := pos) (h false rfl) fun _ => h2 rfl y hy
      rwa [Bool.false_or] at this
theorem eo_one {op : BoolOp} {o : Option Bool} (h : EO S γ a eB o) : EO S γ (.BoolOp op [a] pos) eB o := fun y hy => e_one (h y hy)
theorem eo_and {o o2 : Option Bool} (h : EO S γ a eB o) (h2 : o = some true → EO S γ (.BoolOp .And (b :: rest) pos) eB o2) : EO S γ (.BoolOp .And (a :: b :: rest) pos) eB (andO o o2) := fun y hy => by
  cases o with
  | none => cases hy
  | some k =>
    cases k with
    | true =>
      have hy : o2 = some y := hy
      exact e_and (k := true) (h true rfl) fun _ => h2 rfl y hy
    | false =>
      cases hy
      exact e_and (k := false) (l := true) (h false rfl) fun z => by cases z
theorem eo_or {o o2 : Option Bool} (h : EO S γ a eB o) (h2 : o = some false → EO S γ (.BoolOp .Or (b :: rest) pos) eB o2) : EO S γ (.BoolOp .Or (a :: b :: rest) pos) eB (orO o o2) := fun y hy => by
  cases o with
  | none => cases hy
  | some k =>
    cases k with
    | true =>
      cases hy
      exact e_or (k := true) (l := true) (h true rfl) fun z => by cases z
    | false =>
      have hy : o2 = some y := hy
      have := e_or (k := false) (l := y) (pos := pos) (h false rfl) fun _ => h2 rfl y hy
      rw [Bool.false_or] at this
      exact this
theorem TOp.elim {o : Option Bool} {x : Bool} (h : TOp S γ e o) (hx : o = some x) : TJ S γ e x := h x hx
theorem j_appO {ss : List Stmt} {post : β → Post} {o : Option β} {xs zs : List α} {v : α} {x : Str} {j : Nat} {pa pc pn : Pos} (hN : S.N[j]? = some x) (hv : Vis S.sc x) (hg : γ[j]? = some (.ow (.list (xs.map enc)))) (h : EJ S γ e (enc v)) (hz : appO xs v = some zs) (hs : PlainE e) (hd : (x == ("__debug__" : Str)) = false) (hcd : (x == ("__classdict__" : Str)) = false)
    (hba : ∀ X : Cx, attributeBase (.Name x pn) "append" X.env (eval (.Name x pn) X.env) = eval (.Name x pn) X.env) (hli : (pa.endLine == pc.line) = true) (hr : J S (γ.set j (.ow (.list (zs.map enc)))) ss post o) : J S γ (.Expr (.Call (.Attribute (.Name x pn) "append" pa) [e] [] pc) pos :: ss) post o := by
  obtain ⟨h1, h2⟩ := appO_c hz
  subst h2
  exact j_app hN hv hg h h1 hs hd hcd hba hli hr
theorem j_to {γ2 : Gm} {ss : List Stmt} {post : β → Post} {o : Option β} (w : γ = γ2) (h : J S γ2 ss post o) : J S γ ss post o := w ▸ h
end

/-! ### defs that are known -/
def Known (P : Program) (w : World) (K : PySem.W.Frag) (mg : Str → Option Value) (base : Heap) (tabs : List Addr) (lv : Nat) (x : Str) (n : Nat) (R : List PyData → PyData → Prop) : Prop :=
  ∃ f fd ps, ps.length = n ∧ FnOk P w K mg base CX0 lv f fd ps (spR K tabs ps.length R) ∧ mg x = some (.ref f) ∧ PySem.W.keepIn K (.ref f) = true ∧ Binds K fd ps []
def GDef (K : PySem.W.Frag) (mg : Str → Option Value) (x : Str) (st : Stmt) (ps : List Str) : Prop := ∃ f fd, Fun K x x st f fd ∧ Binds K fd ps [] ∧ mg x = some (.ref f)
theorem known_of {P : Program} {w : World} {K : PySem.W.Frag} {mg : Str → Option Value} {base : Heap} {tabs : List Addr} {k : Nat} {x : Str} {st : Stmt} {N ps : List Str} {R : List PyData → PyData → Prop} (D : GDef K mg x st ps) (Sc : FnScope N ps (defScope st))
    (hb : ∀ (cdv : Value) (B F0 : Hp) (ds : List PyData) (r : PyData), ds.length = ps.length → R ds r → SJ (Stat.of P w K mg base N (defScope st) k tabs cdv B F0) (gm0 N.length ds) (defBody st) ⟨fun _ => r = .none, fun d => d = r⟩) : Known P w K mg base tabs (k + 1) x ps.length R := by
  obtain ⟨f, fd, F, b, m⟩ := D
  exact ⟨f, fd, ps, rfl, def_ok F Sc hb, m, F.kp, b⟩
theorem e_callK {S : Stat} {γ : Gm} {e : Expr} {es : List Expr} {ds : List PyData} {d : PyData} {pos p : Pos} {x : Str} {k n : Nat} {R : List PyData → PyData → Prop} (G : Known S.P S.w S.K S.mg S.base S.tabs k x n R) (hk : k ≤ S.k) (hg : IsGl S x)
    (ha : AJ S γ (e :: es) ds) (hr : R ds d) (hl : ds.length = n) (hs : PlainE e) (hpl : ∀ X : Cx, (backTo pos (starEach es X.env)).any (·.1) = false) (hdb : (x == ("__debug__" : Str)) = false) : EJ S γ (.Call (.Name x p) (e :: es) [] pos) d := by
  obtain ⟨f, fd, ps, hn, G, m, kp, b⟩ := G
  exact e_call G hk hg m kp b ha hr (hl.trans hn.symm) hs hpl hdb
theorem J.body {S : Stat} {γ : Gm} {ss : List Stmt} {ρ : Type} {enc : ρ → PyData} {o : Option ρ} {y : ρ} (h : J S γ ss (pT enc) o) (hy : o = some y) : SJ S γ ss ⟨fun _ => enc y = .none, fun d => d = enc y⟩ := (h y hy).imp (fun _ z => z.elim) fun _ z => z
end SM

set_option autoImplicit false
set_option Elab.async false
set_option linter.all false
set_option maxRecDepth 100000
set_option maxHeartbeats 4000000
namespace SM
open PySem PySem.Spec PyProof.Rows L2
/-! ### the law's own equality -/
mutual
def lawIs (v : PyData) : PyData → Bool
  | .none => isN v
  | .bool b => match v with | .bool c => decide (c = b) | _ => false
  | .int i => match v with | .int j => decide (j = i) | _ => false
  | .str s => match v with | .str t => decide (t = s) | _ => false
  | .tuple ds => match v with | .tuple vs => lawAll vs ds | _ => false
  | .list ds => match v with | .tuple vs => lawAll vs ds | _ => false
  | .dict _ => false
def lawAll : List PyData → List PyData → Bool
  | [], [] => true
  | v :: vs, d :: ds => lawIs v d && lawAll vs ds
  | _, _ => false
end
def okD : Nat → PyData → Bool
  | _, .none => true
  | _, .bool _ => true
  | _, .int _ => true
  | _, .str _ => true
  | k + 1, .tuple ds => decide (ds.length ≤ 8388608) && ds.all (okD k)
  | k + 1, .list ds => decide (ds.length ≤ 8388608) && ds.all (okD k)
  | _, _ => false
def m__law_is (v d : PyData) : Option Bool := if okD 6 d = true then some (lawIs v d) else none
theorem lawAll_len : ∀ {vs ds : List PyData}, vs.length ≠ ds.length → lawAll vs ds = false
  | [], [], h => absurd rfl h
  | [], _ :: _, _ => by simp [lawAll]
  | _ :: _, [], _ => by simp [lawAll]
  | v :: vs, d :: ds, h => by
    rw [lawAll, lawAll_len (by simpa using h), Bool.and_false]
theorem lawAll_zip : ∀ {vs ds : List PyData}, vs.length = ds.length → ((vs.zip ds).map fun p => lawIs p.1 p.2).all id = lawAll vs ds
  | [], [], _ => by simp [lawAll]
  | v :: vs, d :: ds, h => by
    rw [lawAll, List.zip_cons_cons, List.map_cons, List.all_cons, lawAll_zip (by simpa using h)]; rfl
section
variable {S : Stat} {γ : Gm} {sa rest : List Stmt} {c : Expr} {pos : Pos} {α : Type} {post : α → Post} {o : Option α}
theorem j_ifT (hc : TJ S γ c true) (h : J S γ sa (fun x => (post x).noNx) o) : J S γ (.If c sa [] pos :: rest) post o := by
  have := j_ifR (rest := rest) (post := post) (pos := pos) (o1 := o) (o2 := none) hc (fun _ => h) (fun z => by cases z)
  rwa [if_pos rfl] at this
theorem j_ifF (hc : TJ S γ c false) (h : J S γ rest post o) : J S γ (.If c sa [] pos :: rest) post o := by
  have := j_ifR (sa := sa) (post := post) (pos := pos) (o1 := none) (o2 := o) hc (fun z => by cases z) (fun _ => h)
  rwa [if_neg Bool.false_ne_true] at this
end
theorem atI_pos {α : Type} {xs : List α} {i : Int} (h : 0 ≤ i) : atI xs i = xs[i.toNat]? := by
  unfold atI ixN
  rw [if_pos h]
  split
  · rfl
  · rw [List.getElem?_eq_none (by omega)]; rfl
theorem compM_get' {α β : Type} {f : α → Option (Option β)} {g : α → β} : ∀ {xs : List α}, (∀ x ∈ xs, f x = some (some (g x))) → compM f xs = some (xs.map g)
  | [], _ => by simp [compM]
  | x :: xs, h => by
    have e1 := h x List.mem_cons_self
    have e2 := compM_get' (f := f) (g := g) (xs := xs) fun y hy => h y (List.mem_cons_of_mem _ hy)
    simp [compM, e1, e2]
theorem mem_rng {lo hi i : Int} : i ∈ rng lo hi ↔ lo ≤ i ∧ i < hi := by
  unfold rng
  simp only [List.mem_map, List.mem_range]
  constructor
  · rintro ⟨k, h1, h2⟩; omega
  · rintro ⟨h1, h2⟩; exact ⟨(i - lo).toNat, by omega, by omega⟩
theorem rng_map_get {α β : Type} {xs : List α} {g : α → β} {n : Int} (hn : n = xs.length) [Inhabited β] : (rng 0 n).map (fun i => ((xs[i.toNat]?).map g).getD default) = xs.map g := by
  subst hn
  unfold rng
  rw [List.map_map]
  apply List.ext_getElem?
  intro i
  simp only [List.getElem?_map, List.getElem?_range, Int.sub_zero, Int.toNat_natCast, Function.comp]
  by_cases hi : i < xs.length
  · rw [List.getElem?_range (by simpa using hi), List.getElem?_eq_getElem hi]
    simp [hi]
  · rw [List.getElem?_eq_none (by simpa using hi), List.getElem?_eq_none (by omega)]
    rfl
theorem compM_at {α β : Type} {xs : List α} {g : α → β} {n : Int} (hn : n = xs.length) : compM (fun i => (atI xs i).bind fun p => some (some (g p))) (rng 0 n) = some (xs.map g) := by
  subst hn
  cases hx : xs with
  | nil => simp [rng, compM]
  | cons x r =>
    rw [← hx]
    haveI : Inhabited β := ⟨g x⟩
    rw [← rng_map_get (g := g) rfl]
    refine compM_get' fun i hi => ?_
    rw [mem_rng] at hi
    rw [atI_pos hi.1, List.getElem?_eq_getElem (by omega)]
    rfl
theorem atI_zip {α β : Type} {xs : List α} {ys : List β} {i : Int} {p : α × β} (h0 : 0 ≤ i) (h : atI (xs.zip ys) i = some p) : atI xs i = some p.1 ∧ atI ys i = some p.2 := by
  rw [atI_pos h0] at h ⊢
  rw [atI_pos h0]
  exact List.getElem?_zip_eq_some.mp h
theorem mem_at {α : Type} {xs : List α} {i : Int} {x : α} (h : atI xs i = some x) : x ∈ xs := by
  unfold atI at h
  obtain ⟨j, _, h2⟩ := Option.bind_eq_some_iff.mp h
  exact List.mem_of_getElem? h2
theorem is_bool {v : PyData} (h : isInst "bool" v = true) : ∃ c, v = .bool c := by cases v <;> first | exact ⟨_, rfl⟩ | exact Bool.noConfusion (show (false : Bool) = true from h)
theorem is_str {v : PyData} (h : isInst "str" v = true) : ∃ c, v = .str c := by cases v <;> first | exact ⟨_, rfl⟩ | exact Bool.noConfusion (show (false : Bool) = true from h)
theorem is_tup {v : PyData} (h : isInst "tuple" v = true) : ∃ c, v = .tuple c := by cases v <;> first | exact ⟨_, rfl⟩ | exact Bool.noConfusion (show (false : Bool) = true from h)
theorem is_int {v : PyData} (h : (isInst "int" v && !isInst "bool" v) = true) : ∃ c, v = .int c := by cases v <;> first | exact ⟨_, rfl⟩ | exact Bool.noConfusion (show (false : Bool) = true from h)
theorem no_bool {v : PyData} {b : Bool} (h : isInst "bool" v = false) : lawIs v (.bool b) = false := by
  cases v <;> first | (simp [lawIs]; done) | exact Bool.noConfusion (show (true : Bool) = false from h)
theorem no_int {v : PyData} {b : Int} (h : (isInst "int" v && !isInst "bool" v) = false) : lawIs v (.int b) = false := by
  cases v <;> first | (simp [lawIs]; done) | exact Bool.noConfusion (show (true : Bool) = false from h)
theorem no_str {v : PyData} {b : Str} (h : isInst "str" v = false) : lawIs v (.str b) = false := by
  cases v <;> first | (simp [lawIs]; done) | exact Bool.noConfusion (show (true : Bool) = false from h)
theorem no_tup {v : PyData} {b : List PyData} (h : isInst "tuple" v = false) : lawIs v (.tuple b) = false ∧ lawIs v (.list b) = false := by
  cases v <;> first | (simp [lawIs]; done) | exact Bool.noConfusion (show (true : Bool) = false from h)
theorem kit_int (d : PyData) : kitB (tyN d) "int" = some (isInst "int" d) := by
  cases d <;> (unfold isInst; simp only [tyN]; decide +kernel)
theorem kit_bool (d : PyData) : kitB (tyN d) "bool" = some (isInst "bool" d) := by
  cases d <;> (unfold isInst; simp only [tyN]; decide +kernel)
theorem kit_str (d : PyData) : kitB (tyN d) "str" = some (isInst "str" d) := by
  cases d <;> (unfold isInst; simp only [tyN]; decide +kernel)
theorem kit_tuple (d : PyData) : kitB (tyN d) "tuple" = some (isInst "tuple" d) := by
  cases d <;> (unfold isInst; simp only [tyN]; decide +kernel)
theorem kit_list (d : PyData) : kitB (tyN d) "list" = some (isInst "list" d) := by
  cases d <;> (unfold isInst; simp only [tyN]; decide +kernel)
theorem sp_start {K : PySem.W.Frag} {H : Hp} {a : Addr} {nss : List Int} {R : List PyData → PyData → Prop} {E : XK} (ho : Only H) (hS : SqL K H a (nss.map V.int)) (hR : R [.list (nss.map .int)] (.bool true)) : spR K [] 1 R [.ref a] H (fun v _ => v = .bl true) E := by
  have dpI : ∀ ns : List Int, DpAll K H (ns.map V.int) (ns.map PyData.int) := fun ns => by
    induction ns with
    | nil => exact .nil
    | cons x r ih => exact .cons (.int x) ih
  exact ⟨rfl, H, _, _, ⟨fun a o h => h, fun a ps z => by
    rcases ho a with h | ⟨o, xs, h⟩ <;> (rw [h] at z; cases z)⟩, (fun P hP => by cases hP), .cons (.lst hS (dpI nss)) .nil, hR, fun v H' F' _ _ dv => by cases dv; rfl⟩
theorem len_le {ds : List PyData} {n : Nat} (h : ds.length = n) (hn : n ≤ 16777216) : ds.length ≤ sizeLine := h ▸ hn
end SM

set_option autoImplicit false
set_option Elab.async false
set_option linter.all false
set_option maxRecDepth 100000
set_option maxHeartbeats 4000000
namespace SM
open PySem PySem.Spec PyProof.Rows L2

/-! ### loops, in plain Lean -/
section
variable {α β τ ρ : Type}
theorem fold_inv {f : β → τ → Option β} {xs : List τ} {t0 : β} (I : List τ → β → Prop) (h0 : I [] t0) (hs : ∀ p x q t, xs = p ++ x :: q → I p t → ∃ t', f t x = some t' ∧ I (p ++ [x]) t') : ∃ t, xs.foldlM f t0 = some t ∧ I xs t := by
  have key : ∀ (ys p : List τ) (t : β), xs = p ++ ys → I p t → ∃ t', ys.foldlM f t = some t' ∧ I xs t' := by
    intro ys
    induction ys with
    | nil => intro p t e h; exact ⟨t, rfl, by rw [e, List.append_nil]; exact h⟩
    | cons y ys ih =>
      intro p t e h
      obtain ⟨t1, h1, h2⟩ := hs p y ys t e h
      obtain ⟨t2, h3, h4⟩ := ih (p ++ [y]) t1 (by rw [e, List.append_assoc]; rfl) h2
      exact ⟨t2, by rw [List.foldlM_cons, h1]; exact h3, h4⟩
  exact key xs [] t0 rfl h0
theorem fold_tot {f : β → τ → Option β} {xs : List τ} {g : β → τ → β} {t0 : β} (h : ∀ t, ∀ x ∈ xs, f t x = some (g t x)) : xs.foldlM f t0 = some (xs.foldl g t0) := by
  induction xs generalizing t0 with
  | nil => rfl
  | cons x xs ih =>
    rw [List.foldlM_cons, h t0 x List.mem_cons_self]
    exact ih fun t y hy => h t y (List.mem_cons_of_mem _ hy)
theorem rng_succ (lo : Int) (n : Nat) : rng lo (lo + ((n + 1 : Nat) : Int)) = rng lo (lo + (n : Int)) ++ [lo + (n : Int)] := by
  unfold rng
  rw [show (lo + ((n + 1 : Nat) : Int) - lo).toNat = n + 1 by omega, show (lo + (n : Int) - lo).toNat = n by omega, List.range_succ, List.map_append]
  rfl
theorem rng_neg {lo hi : Int} (h : hi ≤ lo) : rng lo hi = [] := by
  unfold rng
  rw [show (hi - lo).toNat = 0 by omega]; rfl
theorem rng_cons {lo hi : Int} (h : lo < hi) : rng lo hi = lo :: rng (lo + 1) hi := by
  unfold rng
  rw [show (hi - lo).toNat = (hi - (lo + 1)).toNat + 1 by omega, List.range_succ_eq_map, List.map_cons, List.map_map]
  congr 1
  · omega
  · apply List.map_congr_left
    intro a _
    simp only [Function.comp]; omega
theorem foldlM_snoc {f : β → τ → Option β} {xs : List τ} {x : τ} {t : β} : (xs ++ [x]).foldlM f t = (xs.foldlM f t).bind fun t' => f t' x := by
  rw [List.foldlM_append]
  cases xs.foldlM f t with
  | none => rfl
  | some a =>
    show (do let t' ← List.foldlM f a [x]; pure t') = f a x
    rw [List.foldlM_cons]
    cases f a x <;> rfl
theorem fold_rng {f : β → Int → Option β} {n : Nat} {t0 : β} (I : Nat → β → Prop) (h0 : I 0 t0) (hs : ∀ k t, k < n → I k t → ∃ t', f t (k : Int) = some t' ∧ I (k + 1) t') : ∃ t, (rng 0 (n : Int)).foldlM f t0 = some t ∧ I n t := by
  induction n with
  | zero => exact ⟨t0, by rw [rng_neg (lo := 0) (hi := ((0 : Nat) : Int)) (by decide)]; rfl, h0⟩
  | succ n ih =>
    obtain ⟨t, h1, h2⟩ := ih fun k t hk => hs k t (Nat.lt_succ_of_lt hk)
    obtain ⟨t', h3, h4⟩ := hs n t (Nat.lt_succ_self n) h2
    refine ⟨t', ?_, h4⟩
    have e := rng_succ 0 n
    simp only [Int.zero_add] at e
    rw [e, foldlM_snoc, h1]
    exact h3
theorem foldR_snoc {f : β → τ → Option (Res ρ β)} : ∀ {xs : List τ} {x : τ} {t t1 : β}, foldR f t xs = some (.nx t1) → foldR f t (xs ++ [x]) = f t1 x
  | [], x, t, t1, h => by
    cases h
    show (f t x).bind _ = f t x
    cases f t x with
    | none => rfl
    | some r => cases r <;> rfl
  | y :: ys, x, t, t1, h => by
    unfold foldR at h
    show foldR f t (y :: (ys ++ [x])) = _
    unfold foldR
    cases hy : f t y with
    | none => rw [hy] at h; cases h
    | some r =>
      rw [hy] at h
      cases r with
      | ret r => cases h
      | nx t2 => exact foldR_snoc (xs := ys) h
theorem foldR_inv {f : β → τ → Option (Res ρ β)} {xs : List τ} {t0 : β} (I : List τ → β → Prop) (h0 : I [] t0) (hs : ∀ p x q t, xs = p ++ x :: q → I p t → ∃ t', f t x = some (.nx t') ∧ I (p ++ [x]) t') : ∃ t, foldR f t0 xs = some (.nx t) ∧ I xs t := by
  have key : ∀ (ys p : List τ) (t : β), xs = p ++ ys → I p t → ∃ t', foldR f t ys = some (.nx t') ∧ I xs t' := by
    intro ys
    induction ys with
    | nil => intro p t e h; exact ⟨t, rfl, by rw [e, List.append_nil]; exact h⟩
    | cons y ys ih =>
      intro p t e h
      obtain ⟨t1, h1, h2⟩ := hs p y ys t e h
      obtain ⟨t2, h3, h4⟩ := ih (p ++ [y]) t1 (by rw [e, List.append_assoc]; rfl) h2
      exact ⟨t2, by unfold foldR; rw [h1]; exact h3, h4⟩
  exact key xs [] t0 rfl h0
theorem foldR_nx {f : Unit → τ → Option (Res ρ Unit)} {xs : List τ} (hs : ∀ x ∈ xs, f () x = some (.nx ())) : foldR f () xs = some (.nx ()) := by
  obtain ⟨t, h1, _⟩ := foldR_inv (f := f) (xs := xs) (t0 := ()) (fun _ _ => True) trivial fun p x q t e _ => ⟨(), hs x (by rw [e]; simp), trivial⟩
  exact h1
theorem foldR_rng {f : β → Int → Option (Res ρ β)} {n : Nat} {t0 : β} (I : Nat → β → Prop) (h0 : I 0 t0) (hs : ∀ k t, k < n → I k t → ∃ t', f t (k : Int) = some (.nx t') ∧ I (k + 1) t') : ∃ t, foldR f t0 (rng 0 (n : Int)) = some (.nx t) ∧ I n t := by
  induction n with
  | zero => exact ⟨t0, by rw [rng_neg (lo := 0) (hi := ((0 : Nat) : Int)) (by decide)]; rfl, h0⟩
  | succ n ih =>
    obtain ⟨t, h1, h2⟩ := ih fun k t hk => hs k t (Nat.lt_succ_of_lt hk)
    obtain ⟨t', h3, h4⟩ := hs n t (Nat.lt_succ_self n) h2
    refine ⟨t', ?_, h4⟩
    have e := rng_succ 0 n
    simp only [Int.zero_add] at e
    rw [e, foldR_snoc h1]
    exact h3
/-- the first that answers -/
def asR (o : Option ρ) : Res ρ Unit := match o with | some r => .ret r | none => .nx ()
theorem foldR_find {f : Unit → τ → Option (Res ρ Unit)} {h : τ → Option ρ} : ∀ {xs : List τ}, (∀ x ∈ xs, f () x = some (asR (h x))) → foldR f () xs = some (asR (xs.findSome? h))
  | [], _ => rfl
  | x :: xs, hs => by
    unfold foldR
    rw [hs x List.mem_cons_self, List.findSome?_cons]
    cases h x with
    | some r => rfl
    | none => exact foldR_find fun y hy => hs y (List.mem_cons_of_mem _ hy)
theorem compM_ok {f : τ → Option (Option β)} {g : τ → Option β} : ∀ {xs : List τ}, (∀ x ∈ xs, f x = some (g x)) → compM f xs = some (xs.filterMap g)
  | [], _ => by simp [compM]
  | x :: xs, h => by
    have e1 := h x List.mem_cons_self
    have e2 := compM_ok (f := f) (g := g) (xs := xs) fun y hy => h y (List.mem_cons_of_mem _ hy)
    cases hg : g x <;> simp [compM, e1, e2, hg]
end
theorem ex_bind {α β : Type} {o : Option α} {f : α → Option β} {x : α} {Q : β → Prop} (h : o = some x) (h2 : ∃ y, f x = some y ∧ Q y) : ∃ y, o.bind f = some y ∧ Q y := by subst h; exact h2
theorem bnd {α β : Type} {o : Option α} {f : α → Option β} {x : α} {r : Option β} (h : o = some x) (h2 : f x = r) : o.bind f = r := by subst h; exact h2
theorem itf {α : Type} {c : Bool} {a b r : α} (h : c = false) (h2 : b = r) : (if c = true then a else b) = r := by subst h; rw [if_neg Bool.false_ne_true]; exact h2
theorem itt {α : Type} {c : Bool} {a b r : α} (h : c = true) (h2 : a = r) : (if c = true then a else b) = r := by subst h; rw [if_pos rfl]; exact h2
section
variable {α β τ ρ δ : Type}
theorem ex_fold_rng {f : β → Int → Option β} {n : Nat} {t0 : β} {g : β → Option δ} {Q : δ → Prop} (I : Nat → β → Prop) (h0 : I 0 t0) (hs : ∀ k t, k < n → I k t → ∃ t', f t (k : Int) = some t' ∧ I (k + 1) t') (hg : ∀ t, I n t → ∃ y, g t = some y ∧ Q y) : ∃ y, ((rng 0 (n : Int)).foldlM f t0).bind g = some y ∧ Q y := by
  obtain ⟨t, h1, h2⟩ := fold_rng I h0 hs
  exact ex_bind h1 (hg t h2)
theorem ex_fold {f : β → τ → Option β} {xs : List τ} {t0 : β} {g : β → Option δ} {Q : δ → Prop} (I : List τ → β → Prop) (h0 : I [] t0) (hs : ∀ p x q t, xs = p ++ x :: q → I p t → ∃ t', f t x = some t' ∧ I (p ++ [x]) t') (hg : ∀ t, I xs t → ∃ y, g t = some y ∧ Q y) : ∃ y, (xs.foldlM f t0).bind g = some y ∧ Q y := by
  obtain ⟨t, h1, h2⟩ := fold_inv I h0 hs
  exact ex_bind h1 (hg t h2)
theorem fold_bnd {f : β → τ → Option β} {xs : List τ} {t0 : β} {g : β → Option δ} {r : Option δ} (I : List τ → β → Prop) (h0 : I [] t0) (hs : ∀ p x q t, xs = p ++ x :: q → I p t → ∃ t', f t x = some t' ∧ I (p ++ [x]) t') (hg : ∀ t, I xs t → g t = r) : (xs.foldlM f t0).bind g = r := by
  obtain ⟨t, h1, h2⟩ := fold_inv I h0 hs
  exact bnd h1 (hg t h2)
theorem fold_rng_bnd {f : β → Int → Option β} {n : Nat} {t0 : β} {g : β → Option δ} {r : Option δ} (I : Nat → β → Prop) (h0 : I 0 t0) (hs : ∀ k t, k < n → I k t → ∃ t', f t (k : Int) = some t' ∧ I (k + 1) t') (hg : ∀ t, I n t → g t = r) : ((rng 0 (n : Int)).foldlM f t0).bind g = r := by
  obtain ⟨t, h1, h2⟩ := fold_rng I h0 hs
  exact bnd h1 (hg t h2)
/-- a loop that only looks, and finds nothing -/
theorem foldR_bnd {f : Unit → τ → Option (Res ρ Unit)} {xs : List τ} {g : Res ρ Unit → Option δ} {r : Option δ} (hs : ∀ x ∈ xs, f () x = some (.nx ())) (hg : g (.nx ()) = r) : (foldR f () xs).bind g = r := bnd (foldR_nx hs) hg
end
section
variable {β δ : Type}
theorem fold_rngI {f : β → Int → Option β} {hi : Int} {t0 : β} {g : β → Option δ} {r : Option δ} (I : Nat → β → Prop) (hn : 0 ≤ hi) (h0 : I 0 t0) (hs : ∀ (k : Nat) t, (k : Int) < hi → I k t → ∃ t', f t (k : Int) = some t' ∧ I (k + 1) t') (hg : ∀ t, I hi.toNat t → g t = r) : ((rng 0 hi).foldlM f t0).bind g = r := by
  obtain ⟨n, rfl⟩ := Int.eq_ofNat_of_zero_le hn
  exact fold_rng_bnd I h0 (fun k t hk => hs k t (by omega)) hg
theorem ex_fold_rngI {f : β → Int → Option β} {hi : Int} {t0 : β} {g : β → Option δ} {Q : δ → Prop} (I : Nat → β → Prop) (hn : 0 ≤ hi) (h0 : I 0 t0) (hs : ∀ (k : Nat) t, (k : Int) < hi → I k t → ∃ t', f t (k : Int) = some t' ∧ I (k + 1) t') (hg : ∀ t, I hi.toNat t → ∃ y, g t = some y ∧ Q y) : ∃ y, ((rng 0 hi).foldlM f t0).bind g = some y ∧ Q y := by
  obtain ⟨n, rfl⟩ := Int.eq_ofNat_of_zero_le hn
  exact ex_fold_rng I h0 (fun k t hk => hs k t (by omega)) hg
end
theorem compM_ex {α β : Type} {f : α → Option (Option β)} {Q : β → Prop} : ∀ {xs : List α}, (∀ x ∈ xs, ∃ y, f x = some (some y) ∧ Q y) → ∃ ys, compM f xs = some ys ∧ ys.length = xs.length ∧ ∀ y ∈ ys, Q y
  | [], _ => ⟨[], by simp [compM], rfl, fun y hy => by cases hy⟩
  | x :: xs, h => by
    obtain ⟨y, h1, h2⟩ := h x List.mem_cons_self
    obtain ⟨ys, h3, h4, h5⟩ := compM_ex (f := f) (Q := Q) (xs := xs) fun z hz => h z (List.mem_cons_of_mem _ hz)
    refine ⟨y :: ys, by simp [compM, h1, h3], by rw [List.length_cons, h4]; rfl, fun z hz => ?_⟩
    rcases List.mem_cons.mp hz with e | e
    · rw [e]; exact h2
    · exact h5 z e
/-! ### small parts -/
theorem rngO_eq {lo hi : Int} (h : -8388608 ≤ lo ∧ lo ≤ 8388608 ∧ -8388608 ≤ hi ∧ hi ≤ 8388608) : rngO lo hi = some (rng lo hi) := by unfold rngO; rw [if_pos h]
theorem catO_eq {α : Type} {xs ys : List α} (h : xs.length + ys.length ≤ 16777216) : catO xs ys = some (xs ++ ys) := by unfold catO; rw [if_pos h]
theorem appO_eq {α : Type} {xs : List α} {x : α} (h : xs.length < 16777216) : appO xs x = some (xs ++ [x]) := by unfold appO; rw [if_pos h]
theorem modO_eq {x y : Int} (h : 0 < y) : modO x y = some (x % y) := by unfold modO; rw [if_pos h]
theorem mulO_eq {x y : Int} (h : (-2 ^ 64 < x ∧ x < 2 ^ 64) ∨ (-2 ^ 64 < y ∧ y < 2 ^ 64)) : mulO x y = some (x * y) := by unfold mulO; rw [if_pos h]
theorem atI_lt {α : Type} {xs : List α} {i : Int} (h : 0 ≤ i) (h2 : i < xs.length) : ∃ x, atI xs i = some x ∧ x ∈ xs ∧ xs[i.toNat]? = some x := by
  rw [atI_pos h, List.getElem?_eq_getElem (show i.toNat < xs.length by omega)]
  exact ⟨_, rfl, List.getElem_mem _, rfl⟩
theorem atI_n {α : Type} {xs : List α} (k : Nat) : atI xs (k : Int) = xs[k]? := by rw [atI_pos (by omega)]; rfl
theorem andO_t {y : Option Bool} : andO (some true) y = y := rfl
theorem andO_f {y : Option Bool} : andO (some false) y = some false := rfl
theorem orO_t {y : Option Bool} : orO (some true) y = some true := rfl
theorem orO_f {y : Option Bool} : orO (some false) y = y := rfl
theorem headO {α : Type} {xs : List α} : (if (decide ((0 : Int) < ((List.length xs : Nat) : Int))) = true then ((atI xs (0 : Int)).bind fun t => some (some t)) else some none) = some xs.head? := by
  cases xs with
  | nil => rfl
  | cons x r =>
    rw [if_pos (by rw [decide_eq_true_iff, List.length_cons]; omega), show (0 : Int) = ((0 : Nat) : Int) from rfl, atI_n]
    rfl
theorem cut_take {α : Type} {xs : List α} {i : Int} (h : 0 ≤ i) : cut xs none (some i) = xs.take i.toNat := by
  obtain ⟨k, rfl⟩ := Int.eq_ofNat_of_zero_le h
  unfold cut
  rw [HT.sIx_none, HT.sIx_nat, List.drop_zero, Nat.sub_zero, Int.toNat_natCast]
  apply List.ext_getElem?
  intro j
  simp only [List.getElem?_take]
  split <;> split <;> first | rfl | omega | skip
  rw [List.getElem?_eq_none (by omega)]
theorem cut_drop {α : Type} {xs : List α} {i : Int} (h : 0 ≤ i) : cut xs (some i) none = xs.drop i.toNat := by
  obtain ⟨k, rfl⟩ := Int.eq_ofNat_of_zero_le h
  unfold cut
  rw [HT.sIx_none, HT.sIx_nat, Int.toNat_natCast, List.take_of_length_le (by rw [List.length_drop]; omega)]
  by_cases hk : k ≤ xs.length
  · rw [Nat.min_eq_left hk]
  · rw [Nat.min_eq_right (by omega), List.drop_length, List.drop_of_length_le (by omega)]
theorem cut_mid {α : Type} {xs : List α} {i j : Int} (h : 0 ≤ i) (h2 : 0 ≤ j) : cut xs (some i) (some j) = (xs.drop i.toNat).take (j.toNat - i.toNat) := by
  obtain ⟨a, rfl⟩ := Int.eq_ofNat_of_zero_le h
  obtain ⟨b, rfl⟩ := Int.eq_ofNat_of_zero_le h2
  unfold cut
  rw [HT.sIx_nat, HT.sIx_nat, Int.toNat_natCast, Int.toNat_natCast]
  apply List.ext_getElem?
  intro m
  simp only [List.getElem?_take, List.getElem?_drop]
  by_cases hm : m < b - a ∧ a + m < xs.length
  · rw [if_pos (by omega), if_pos hm.1, show min a xs.length = a by omega]
  · by_cases h3 : m < b - a
    · rw [if_pos h3, List.getElem?_eq_none (show xs.length ≤ a + m by omega)]
      split
      · rw [List.getElem?_eq_none (by omega)]
      · rfl
    · rw [if_neg h3, if_neg (by omega)]
theorem cut_len {α : Type} {xs : List α} {l u : Option Int} : (cut xs l u).length ≤ xs.length := by
  unfold cut
  rw [List.length_take, List.length_drop]; omega
/-! ### the law's own equality, on what is typed -/
theorem is_eB {x y : Bool} : m__law_is (eB x) (eB y) = some (decide (x = y)) := by simp [m__law_is, okD, lawIs]
theorem is_eI {x y : Int} : m__law_is (eI x) (eI y) = some (decide (x = y)) := by simp [m__law_is, okD, lawIs]
/-- what can be told apart by the law -/
structure IsEq {α : Type} (e : α → PyData) : Prop where
  is : ∀ x y, lawIs (e x) (e y) = true ↔ x = y
theorem IsEq.dec {α : Type} [DecidableEq α] {e : α → PyData} (h : IsEq e) (x y : α) : lawIs (e x) (e y) = decide (x = y) := by
  rw [Bool.eq_iff_iff, decide_eq_true_iff]; exact h.is x y
theorem isEq_I : IsEq eI := ⟨fun x y => by simp [lawIs]⟩
theorem isEq_B : IsEq eB := ⟨fun x y => by simp [lawIs]⟩
theorem isEq_S : IsEq eS := ⟨fun x y => by simp [lawIs]⟩
theorem lawAll_map {α : Type} {e : α → PyData} (h : IsEq e) : ∀ xs ys : List α, lawAll (xs.map e) (ys.map e) = true ↔ xs = ys
  | [], [] => by simp [lawAll]
  | [], _ :: _ => by simp [lawAll]
  | _ :: _, [] => by simp [lawAll]
  | x :: xs, y :: ys => by simp [lawAll, h.is, lawAll_map h xs ys]
theorem isEq_T {α : Type} {e : α → PyData} (h : IsEq e) : IsEq (eT e) := ⟨fun x y => by simp only [lawIs]; exact lawAll_map h x y⟩
theorem isEq_P2 {α β : Type} {e1 : α → PyData} {e2 : β → PyData} (h1 : IsEq e1) (h2 : IsEq e2) : IsEq (eP2 e1 e2) := ⟨fun x y => by
  obtain ⟨a, b⟩ := x; obtain ⟨c, d⟩ := y
  simp [lawIs, lawAll, h1.is, h2.is]⟩
theorem isEq_P3 {α β γ : Type} {e1 : α → PyData} {e2 : β → PyData} {e3 : γ → PyData} (h1 : IsEq e1) (h2 : IsEq e2) (h3 : IsEq e3) : IsEq (eP3 e1 e2 e3) := ⟨fun x y => by
  obtain ⟨a, b, c⟩ := x; obtain ⟨a', b', c'⟩ := y
  simp [lawIs, lawAll, h1.is, h2.is, h3.is]⟩
theorem isEq_O {α : Type} {e : α → PyData} (h : IsEq e) (hn : ∀ x, isN (e x) = false) (hn2 : ∀ x, lawIs .none (e x) = false) : IsEq (eO e) := ⟨fun x y => by
  cases x with
  | none =>
    cases y with
    | none => simp [eO, lawIs, isN]
    | some y => simp [eO, hn2]
  | some x =>
    cases y with
    | none => simp only [eO, lawIs, hn]; simp
    | some y => simp [eO, h.is]⟩
theorem isEq_OT {α : Type} {e : α → PyData} (h : IsEq e) : IsEq (eO (eT e)) := isEq_O (isEq_T h) (fun _ => rfl) fun _ => by simp [lawIs]
theorem isEq_OP2 {α β : Type} {e1 : α → PyData} {e2 : β → PyData} (h1 : IsEq e1) (h2 : IsEq e2) : IsEq (eO (eP2 e1 e2)) := isEq_O (isEq_P2 h1 h2) (fun _ => rfl) fun _ => by simp [lawIs]
theorem isEq_OP3 {α β γ : Type} {e1 : α → PyData} {e2 : β → PyData} {e3 : γ → PyData} (h1 : IsEq e1) (h2 : IsEq e2) (h3 : IsEq e3) : IsEq (eO (eP3 e1 e2 e3)) := isEq_O (isEq_P3 h1 h2 h3) (fun _ => rfl) fun _ => by simp [lawIs]
theorem isEq_OI : IsEq (eO eI) := isEq_O isEq_I (fun _ => rfl) fun _ => by simp [lawIs]
theorem okD_I {k : Nat} {x : Int} : okD k (eI x) = true := by cases k <;> rfl
theorem okD_B {k : Nat} {x : Bool} : okD k (eB x) = true := by cases k <;> rfl
theorem okD_S {k : Nat} {x : Str} : okD k (eS x) = true := by cases k <;> rfl
theorem okD_N {k : Nat} : okD k .none = true := by cases k <;> rfl
theorem okD_T {α : Type} {e : α → PyData} {k : Nat} {xs : List α} (h : xs.length ≤ 8388608) (h2 : ∀ x ∈ xs, okD k (e x) = true) : okD (k + 1) (eT e xs) = true := by
  simp only [okD, List.length_map, Bool.and_eq_true, decide_eq_true_eq, List.all_eq_true, List.mem_map]
  exact ⟨h, fun y ⟨x, hx, e⟩ => e ▸ h2 x hx⟩
theorem okD_P2 {α β : Type} {e1 : α → PyData} {e2 : β → PyData} {k : Nat} {x : α × β} (h1 : okD k (e1 x.1) = true) (h2 : okD k (e2 x.2) = true) : okD (k + 1) (eP2 e1 e2 x) = true := by
  simp [okD, h1, h2]
theorem okD_P3 {α β γ : Type} {e1 : α → PyData} {e2 : β → PyData} {e3 : γ → PyData} {k : Nat} {x : α × β × γ} (h1 : okD k (e1 x.1) = true) (h2 : okD k (e2 x.2.1) = true) (h3 : okD k (e3 x.2.2) = true) : okD (k + 1) (eP3 e1 e2 e3 x) = true := by
  simp [okD, h1, h2, h3]
theorem okD_O {α : Type} {e : α → PyData} {k : Nat} {x : Option α} (h : ∀ y, x = some y → okD k (e y) = true) : okD k (eO e x) = true := by
  cases x with
  | none => exact okD_N
  | some y => exact h y rfl
/-- equal things are told equal -/
theorem law_is_rfl {α : Type} {e : α → PyData} (h : IsEq e) {x : α} (ok : okD 6 (e x) = true) : m__law_is (e x) (e x) = some true := by
  unfold m__law_is
  rw [if_pos ok, (h.is x x).mpr rfl]
end SM

set_option autoImplicit false
set_option Elab.async false
set_option linter.all false
set_option maxRecDepth 100000
set_option maxHeartbeats 4000000
namespace SM
open PySem PySem.Spec PyProof.Rows L2 GenW

/-! ### the consumer's loops, by what holds between two items -/
section
variable {prog : Program} {w : World} {A : Around} {I : Addr} {R : Result → Shared → Prop}
theorem all_loopI (Z : Nat → Shared → Prop) (hstep : ∀ m s, Z m s → wpAny (model prog w) A.in1 (pyNext (.ref I)) (fun o s' => match o with
      | none => R (.ok (.ret (.bool true))) s'
      | some v => ∃ k, v = .bool k ∧ if k = true then (∃ m', m' < m ∧ Z m' s') else R (.ok (.ret (.bool false))) s') (fun _ _ => False) s) :
    ∀ m s, Z m s → codeAny (model prog w) A (.builtin "all.loop" ⟨[.ref I], []⟩) R s := by
  intro m
  induction m using Nat.strongRecOn with
  | ind m ih =>
    intro s hz
    refine codeAny_builtin F.entry_all_loop ?_
    rw [Around.under_plainId F.plain_all_loop _]
    show wpAny _ A.in1 (pyNext (.ref I) >>= _) _ _ s
    refine wpAny_bind (wpAny_mono (hstep m s hz) (fun o s' h => ?_) fun _ _ e => e.elim)
    cases o with
    | none => exact wpAny_bind (wpAny_rule (wpAny_pure h))
    | some v =>
      obtain ⟨k, rfl, h⟩ := h
      refine wpAny_bind (wpAny_holding (wpAny_truthy_bool ?_))
      refine wpAny_bind (wpAny_letGo ?_)
      cases k with
      | true =>
        simp only [if_true] at h ⊢
        obtain ⟨m', hm, hz'⟩ := h
        exact wpAny_pure ⟨plainId_quiet F.plain_all_loop _, ih m' hm s' hz'⟩
      | false =>
        simp only [Bool.false_eq_true, if_false] at h ⊢
        exact wpAny_bind (wpAny_rule (wpAny_pure h))
theorem any_loopI (Z : Nat → Shared → Prop) (hstep : ∀ m s, Z m s → wpAny (model prog w) A.in1 (pyNext (.ref I)) (fun o s' => match o with
      | none => R (.ok (.ret (.bool false))) s'
      | some v => ∃ k, v = .bool k ∧ if k = false then (∃ m', m' < m ∧ Z m' s') else R (.ok (.ret (.bool true))) s') (fun _ _ => False) s) :
    ∀ m s, Z m s → codeAny (model prog w) A (.builtin "any.loop" ⟨[.ref I], []⟩) R s := by
  intro m
  induction m using Nat.strongRecOn with
  | ind m ih =>
    intro s hz
    refine codeAny_builtin F.entry_any_loop ?_
    rw [Around.under_plainId F.plain_any_loop _]
    show wpAny _ A.in1 (pyNext (.ref I) >>= _) _ _ s
    refine wpAny_bind (wpAny_mono (hstep m s hz) (fun o s' h => ?_) fun _ _ e => e.elim)
    cases o with
    | none => exact wpAny_bind (wpAny_rule (wpAny_pure h))
    | some v =>
      obtain ⟨k, rfl, h⟩ := h
      refine wpAny_bind (wpAny_holding (wpAny_truthy_bool ?_))
      refine wpAny_bind (wpAny_letGo ?_)
      cases k with
      | false =>
        simp only [if_true, Bool.false_eq_true, if_false] at h ⊢
        obtain ⟨m', hm, hz'⟩ := h
        exact wpAny_pure ⟨plainId_quiet F.plain_any_loop _, ih m' hm s' hz'⟩
      | true =>
        simp only [Bool.true_eq_false, if_true, if_false] at h ⊢
        exact wpAny_bind (wpAny_rule (wpAny_pure h))
variable {E : Value → Shared → Prop} {s : Shared}
theorem call_allI {a : Addr} {g : Nat} {Q : Value → Shared → Prop} (hg : s.heap.IsGen a g) (h : codeAny (model prog w) A (.builtin "all.loop" ⟨[.ref a], []⟩) (fun r s' => match r with | .ok (.ret v) => Q v s' | .ok _ => False | .error e => E e s') s) :
    wpAny (model prog w) A (call (.builtin "all") [.ref a]) Q E s := by
  refine call_function_tree F.kind_all F.plain_all F.entry_all (F.args_all1 _) ?_
  unfold Builtin.«all»
  refine wpAny_bind (m := oneArg "all" _) (wpAny_pure ?_)
  exact wpAny_bind (wpAny_pyIter_gen hg (wpAny_pure ⟨plainId_quiet F.plain_all_loop _, h⟩))
theorem call_anyI {a : Addr} {g : Nat} {Q : Value → Shared → Prop} (hg : s.heap.IsGen a g) (h : codeAny (model prog w) A (.builtin "any.loop" ⟨[.ref a], []⟩) (fun r s' => match r with | .ok (.ret v) => Q v s' | .ok _ => False | .error e => E e s') s) :
    wpAny (model prog w) A (call (.builtin "any") [.ref a]) Q E s := by
  refine call_function_tree F.kind_any F.plain_any F.entry_any (F.args_any1 _) ?_
  unfold Builtin.«any»
  refine wpAny_bind (m := oneArg "any" _) (wpAny_pure ?_)
  exact wpAny_bind (wpAny_pyIter_gen hg (wpAny_pure ⟨plainId_quiet F.plain_any_loop _, h⟩))
end

/-! ### a generator expression's frame -/
structure GxOk (N : List Str) (sc scope : Scope) (own : List (Str × Nat)) : Prop extends BlkOk N sc scope own where
  co : scope.isCoroutine = false
  nocell : ∀ y ∈ scope.names, y.2 ≠ .cell
  dot : scope.names.lookup (".0" : Str) = some .local
abbrev gxC (X : Cx) (s : Shared) (H : Hp) (cenv : Env) (fp : List Addr) (A' : Around) (pn : List (Addr × Obj)) : Cx :=
  { X with A := A', s_0 := s, H_0 := H, env := cenv, outer := X.stack, stack := cenv :: X.stack, ex := fp, fn := fun _ => false, pn := pn, xe := fun _ _ => False }
section
variable {X : Cx} {pins : List (Addr × Obj)} {σ : L2.St} {H : Hp} {s : Shared}
theorem gx_start {scope : Scope} {own : List (Str × Nat)} {fp : List Addr} {code : Value} {A' : Around} {h5 : Heap} {g5 : Array GenState} {tk : Nat} {m : Str → Option Value} {a : Addr} {go : Obj} (I : Inv X pins σ H s) (ok : GxOk X.N X.env.scope scope own) (hN : X.N.Nodup) (hfp : ∀ b ∈ fp, FpOk X pins H b ∧ b < s.heap.objs.size)
    (hA : A'.frames = some (genEnv scope (cloFrom X.env.cells scope.names []) s.heap.objs.size code builtinsNs X.env :: X.stack)) (hh : X.calm = true → A'.handled = none) (kp : ∀ b o, s.heap.get? b = some o → h5.get? b = some o) (hns : h5.Ns s.heap.objs.size m) (hb : AllBare g5)
    (ha : h5.get? a = some go) (haC : s.heap.objs.size < a) (hgo : ∀ v, go.data ≠ .cell v) :
    Inv (gxC X s H (genEnv scope (cloFrom X.env.cells scope.names []) s.heap.objs.size code builtinsNs X.env) fp A' [(a, go)]) [] (wipe σ (own.map (·.2))) H { s with heap := h5, gens := g5, toks := tk } := by
  have hfree : ∀ y ∈ scope.names, y.2 = .free → ∃ c, X.env.cells.lookup y.1 = some c := fun y hy e => by
    rcases ok.free y hy e with k | k
    · exact I.ok.has _ (.inl k)
    · exact I.ok.has _ (.inr k)
  have cm : ∀ {y c}, (y, c) ∈ cloFrom X.env.cells scope.names [] → X.env.cells.lookup y = some c ∧ c < s.heap.objs.size := fun {y c} hm => by
    rcases cloFrom_mem hm with hm | ⟨h1, rfl⟩
    · cases hm
    · obtain ⟨c, hc⟩ := hfree _ h1 rfl
      rw [hc]
      obtain ⟨w, z⟩ := I.cell _ _ hc
      exact ⟨rfl, z.lt⟩
  have look : ∀ {y}, scope.names.lookup y = some .free → ∃ c, (cloFrom X.env.cells scope.names []).lookup y = some c ∧ X.env.cells.lookup y = some c := fun {y} hl => by
    have hy : (y, NameKind.free) ∈ scope.names := PySem.mem_of_lookup hl
    obtain ⟨c', e'⟩ := mem_lookup (cloFrom_has (cells := X.env.cells) (acc := []) hy)
    exact ⟨c', e', (cm (PySem.mem_of_lookup e')).1⟩
  have okB : (gxC X s H (genEnv scope (cloFrom X.env.cells scope.names []) s.heap.objs.size code builtinsNs X.env) fp A' [(a, go)]).Ok := by
    refine ⟨I.ok.mod, ok.kind, I.ok.glob, rfl, Nat.le_refl _,
      fun y z c e1 e2 => ?_, fun y hy => ?_, fun y c z e => ?_, hh, hA, .inr ⟨rfl, rfl⟩, fun b hb => ⟨?_, fun y c e z => ?_⟩, I.bs, Nat.le_trans I.ok.bsz I.sz, fun b o e hb => ?_, fun b hb z => ?_, I.stack, I.stkFree⟩
    · exact I.ok.inj y z c (cm (PySem.mem_of_lookup e1)).1 (cm (PySem.mem_of_lookup e2)).1
    · have hy : scope.names.lookup y = some .cell ∨ scope.names.lookup y = some .free := hy
      rcases hy with hy | hy
      · exact absurd rfl (ok.nocell _ (PySem.mem_of_lookup hy))
      · obtain ⟨c, h1, _⟩ := look hy
        exact ⟨c, h1⟩
    · exact absurd (show (false : Bool) = true from z) Bool.false_ne_true
    · show b ≠ s.heap.objs.size
      exact Nat.ne_of_lt (hfp b hb).2
    · exact (hfp b hb).1.2.2.2.2.1 y c (cm (PySem.mem_of_lookup e)).1 z
    · rcases (hfp b hb).1.2.2.2.1 with z | z
      · exact I.ok.noex b o e z
      · exact absurd (Nat.lt_of_lt_of_le (Heap.lt_size e) (Nat.le_trans I.ok.bsz z)) (Nat.lt_irrefl _)
    · rcases List.mem_cons.mp (I.stkSub b z) with z | z
      · exact (hfp b hb).1.2.1 z
      · exact (hfp b hb).1.2.2.1 z
  refine ⟨okB, rfl, hb, Un.kept kp, ⟨m, hns, fun i y av e1 e2 e3 => ?_⟩, fun y c e => ?_, I.hok.fresh (Nat.le_refl _), fun y c e => I.freeC y c (cm (PySem.mem_of_lookup e)).1, fun p hp => ?_, I.hok.kept kp, by rw [wipe_length]; exact I.len⟩
  · obtain ⟨e2, hne⟩ := wipe_some e2
    have no : ∀ k', scope.names.lookup y = some k' → ¬ (k' = .local ∨ k' = .cell) := fun k' e hh => by
      rcases ok.own _ (PySem.mem_of_lookup e) hh with e' | e'
      · obtain ⟨p, hp, hpy⟩ := List.mem_map.mp e'
        have e3 := ok.ix p hp
        have : p.1 = y := hpy
        rw [this] at e3
        exact hne (List.mem_map.mpr ⟨p, hp, nodup_ix hN e3 e1⟩)
      · exact e' (List.mem_of_getElem? e1)
    have e3 : scope.names.lookup y = some .local ∨ scope.names.lookup y = some .cell ∨ scope.names.lookup y = some .free := e3
    have hfr : scope.names.lookup y = some .free := by
      rcases e3 with e3 | e3 | e3
      · exact absurd (.inl rfl) (no _ e3)
      · exact absurd (.inr rfl) (no _ e3)
      · exact e3
    obtain ⟨m', hn, hl⟩ := I.loc
    have hvis : Vis X.env.scope y := (ok.free _ (PySem.mem_of_lookup hfr) rfl).elim (fun k => .inr (.inl k)) (fun k => .inr (.inr k))
    obtain ⟨w, r, q⟩ := hl i y av e1 e2 hvis
    refine ⟨w, r, .inr ⟨.inr hfr, ?_⟩⟩
    obtain ⟨c, h1, h2⟩ := look hfr
    rcases q with ⟨k, _⟩ | ⟨_, c', e', z⟩
    · have k : X.env.scope.names.lookup y = some .local := k
      rcases ok.free _ (PySem.mem_of_lookup hfr) rfl with k' | k' <;> rw [show X.env.scope.names.lookup y = _ from k'] at k <;> cases k
    · rw [h2] at e'; cases e'
      exact ⟨c, h1, z.keeps kp⟩
  · obtain ⟨w, z⟩ := I.cell y c (cm (PySem.mem_of_lookup e)).1
    exact ⟨w, z.keeps kp⟩
  · have hp : p ∈ [(a, go)] ++ [] := hp
    rw [List.append_nil, List.mem_singleton] at hp
    subst hp
    exact ⟨ha, I.hok.fresh (Nat.le_of_lt haC), Nat.ne_of_gt haC, fun z => by
      obtain ⟨_, o, ho, _⟩ := I.stack.mem z
      exact absurd (Nat.lt_trans (Heap.lt_size ho) haC) (Nat.lt_irrefl _), hgo⟩
end

/-! ### its loop -/
theorem Inv_regen {X : Cx} {pins : List (Addr × Obj)} {σ : L2.St} {H : Hp} {s s' : Shared} (I : Inv X pins σ H s) (hh : s'.heap = s.heap) (ho : s'.os = s.os) (hb : AllBare s'.gens) : Inv X pins σ H s' := by
  obtain ⟨h', g', d', t', o'⟩ := s'
  obtain rfl : h' = s.heap := hh
  exact ⟨I.ok, ho.trans I.os, hb, I.base, I.loc, I.cell, I.free, I.freeC, I.pin, I.hok, I.len⟩
structure GxOut (X : Cx) (s3 : Shared) (H3 : Hp) (fp : List Addr) (a : Addr) (g : Nat) (H : Hp) (s1 : Shared) : Prop where
  os : s1.os = s3.os
  un : Un (frs X.stack) fp H3 H s3.heap s1.heap
  hok : HOk X.prog X.w H s1.heap
  bare : AllBare s1.gens
  gen : s1.heap.IsGen a g
  lim : s1.heap.NoLimit
def gxY (X : Cx) (s3 : Shared) (H3 : Hp) (fp : List Addr) (a : Addr) (g : Nat) (al : Bool) (Q : VK) : Protocol := fun n s0 v s1 kap =>
  ∃ k H, v = .bool k ∧ GxOut X s3 H3 fp a g H s1 ∧ (k = !al → Q (.bl (!al)) H) ∧ (k = al → ∀ s', s'.heap = s1.heap → s'.os = s1.os → AllBare s'.gens → kap (.send .none) s')
def gxR (X : Cx) (s3 : Shared) (H3 : Hp) (fp : List Addr) (a : Addr) (g : Nat) (al : Bool) (Q : VK) : Nat → Shared → Shared → Prop := fun n s0 s1 =>
  ∃ H, GxOut X s3 H3 fp a g H s1 ∧ Q (.bl al) H
/-- what a turn is to reach -/
def GxTurn (J : It) (al : Bool) (g : TG) (tt : TT) (te : TE) (vs : List Nat) (σ : L2.St) (Q : VK) (W : Nat → Nat → Hp → Prop) : Prop := ∀ i m H, W i m H →
  (J.stop i H ∧ Q (.bl al) H) ∨ (J.go i H ∧ ∃ Nx : Hp → Prop, (∀ H', Nx H' → ∃ m', m' < m ∧ W (i + 1) m' H') ∧ ∀ x H', J.yld i H x H' → g x (wipe σ vs) H' fun σ2 H2 => wipe σ2 vs = wipe σ vs ∧ tt σ2 H2 fun b H3 =>
    if b = true then te σ2 H3 fun y H4 => ∃ k : Bool, y = .bl k ∧ if k = al then Nx H4 else Q (.bl (!al)) H4 else Nx H3)
section
variable {X : Cx} {s3 : Shared} {H3 : Hp} {fp : List Addr} {cenv : Env} {A2 : Around} {a it : Addr} {gi : Nat} {go : Obj} {σ : L2.St} {vs : List Nat} {al : Bool} {Q : VK} {elt tg iter : Expr} {ifs : List Expr} {scope : Scope} {gpos : Pos} {J : It} {tn : Nat → Heap → Prop} {g : TG} {tt : TT} {te : TE} {W : Nat → Nat → Hp → Prop}
theorem gx_out {A' : Around} {pins : List (Addr × Obj)} {σ' : L2.St} {H : Hp} {s1 : Shared} (hgo : ∃ nm qn, go = { cls := .type "generator", dict := none, data := .fields #[.int gi 0, nm, qn], slots := #[] } ∧ ∀ h : Heap, h.get? a = some go → h.IsGen a gi) (I : Inv (gxC X s3 H3 cenv fp A' [(a, go)]) pins σ' H s1) : GxOut X s3 H3 fp a gi H s1 :=
  ⟨I.os, I.base, I.hok, I.bare, by
    obtain ⟨_, _, _, h⟩ := hgo
    exact h _ (I.pin (a, go) (List.mem_append_left _ List.mem_cons_self)).1, I.nolimit⟩
theorem gx_seg (hc : X.calm = true) (hco : cenv.scope.isCoroutine = false) (hgo : ∃ nm qn, go = { cls := .type "generator", dict := none, data := .fields #[.int gi 0, nm, qn], slots := #[] } ∧ ∀ h : Heap, h.get? a = some go → h.IsGen a gi)
    (T : Turn X.prog X.w X.K tg J fp it tn)
    (pg : PG (gxC X s3 H3 cenv fp (A2.over (.compLoop (.GeneratorExp elt [⟨tg, iter, ifs, 0⟩] scope gpos) 0 (.ref it) .none cenv) []) [(a, go)]) tg g)
    (pt : PTs (gxC X s3 H3 cenv fp (A2.over (.compLoop (.GeneratorExp elt [⟨tg, iter, ifs, 0⟩] scope gpos) 0 (.ref it) .none cenv) []) [(a, go)]) ifs tt)
    (pe : PE (gxC X s3 H3 cenv fp (A2.over (.compLoop (.GeneratorExp elt [⟨tg, iter, ifs, 0⟩] scope gpos) 0 (.ref it) .none cenv) []) [(a, go)]) elt te)
    (hfa : ∀ b ∈ fp, b ≠ a) (turn : GxTurn J al g tt te vs σ Q W) :
    ∀ (m n i : Nat) (s s0 : Shared) (H : Hp), m < n → Inv (gxC X s3 H3 cenv fp (A2.over (.compLoop (.GeneratorExp elt [⟨tg, iter, ifs, 0⟩] scope gpos) 0 (.ref it) .none cenv) []) [(a, go)]) [] (wipe σ vs) H s → tn i s.heap → (∀ b ∈ fp, H b = none) → W i m H →
      Seg (model X.prog X.w) A2 (fun n s0 r s1 => r = .ok .next ∧ gxR X s3 H3 fp a gi al Q n s0 s1) (gxY X s3 H3 fp a gi al Q) n s0 (.compLoop (.GeneratorExp elt [⟨tg, iter, ifs, 0⟩] scope gpos) 0 (.ref it) .none cenv)
        ((model X.prog X.w).den (.compLoop (.GeneratorExp elt [⟨tg, iter, ifs, 0⟩] scope gpos) 0 (.ref it) .none cenv)) [] s := by
  intro m
  induction m using Nat.strongRecOn with
  | ind m ih =>
  intro n i s s0 H hmn I st nfp w
  have stat : ∀ {σ' : L2.St} {H' : Hp} {s' : Shared}, Inv (gxC X s3 H3 cenv fp (A2.over (.compLoop (.GeneratorExp elt [⟨tg, iter, ifs, 0⟩] scope gpos) 0 (.ref it) .none cenv) []) [(a, go)]) [] σ' H' s' → (∀ b ∈ fp, H' b = none) → ∀ b ∈ fp, FpOk (gxC X s3 H3 cenv fp (A2.over (.compLoop (.GeneratorExp elt [⟨tg, iter, ifs, 0⟩] scope gpos) 0 (.ref it) .none cenv) []) [(a, go)]) [] H' b := fun {σ' H' s'} I' hn b hb =>
    ⟨hn b hb, (I'.ok.exf b hb).1, I'.ok.exfs b hb, .inl hb, fun x c e => (I'.ok.exf b hb).2 x c e, fun p hp => by
      have hp : p ∈ [(a, go)] ++ [] := hp
      rw [List.append_nil, List.mem_singleton] at hp
      subst hp
      exact Ne.symm (hfa b hb)⟩
  show Seg _ A2 _ _ _ s0 _ ((compTurn (.GeneratorExp elt [⟨tg, iter, ifs, 0⟩] scope gpos) 0 (.ref it) .none cenv).onRaise (leaving cenv)) [] s
  rw [compTurn_gen, Sem.onRaise_eq_wrap]
  refine seg_bind_wrap (wpAny_standAt ?_)
  rcases turn i m H w with ⟨stop, qq⟩ | ⟨hgo2, Nx, hNx, step⟩
  · have td := T.done (gxC X s3 H3 cenv fp (A2.over (.compLoop (.GeneratorExp elt [⟨tg, iter, ifs, 0⟩] scope gpos) 0 (.ref it) .none cenv) []) [(a, go)]) rfl rfl rfl hc i [] s _ H (fun _ _ => False) I (stat I nfp) st stop
    refine seg_bind_wrap (wpAny_mono td (fun r s6 ⟨hr, I6⟩ => ?_) fun _ _ e => e.elim)
    subst hr
    exact seg_end (.ok .next) ⟨rfl, H, gx_out hgo I6, qq⟩
  · have ti := T.item (gxC X s3 H3 cenv fp (A2.over (.compLoop (.GeneratorExp elt [⟨tg, iter, ifs, 0⟩] scope gpos) 0 (.ref it) .none cenv) []) [(a, go)]) rfl rfl rfl hc i [] s _ H (fun _ _ => False) I (stat I nfp) st hgo2
    refine seg_bind_wrap (wpAny_mono ti (fun r s6 ⟨u, hr, h6⟩ => ?_) fun _ _ e => e.elim)
    subst hr
    refine seg_bind_wrap (wpAny_mono h6 (fun _ s7 ⟨x, H7, I7, r7, y7, st7, n7⟩ => ?_) fun _ _ e => e.elim)
    have I7' := I7.pinned (stat I7 n7) (T.obj _ _ st7)
    refine seg_bind_wrap (wpAny_mono (pg.run _ s7 _ H7 x u _ I7' r7 (step x H7 y7)) (fun _ s8 ⟨σ8, H8, I8, hw8, q8⟩ => ?_) fun _ _ e => e.elim)
    refine seg_bind_wrap (wpAny_mono (pt.run _ s8 σ8 H8 _ I8 q8) (fun b s9 ⟨H9, I9, q9⟩ => ?_) fun _ _ e => e.elim)
    have fin : ∀ {s' : Shared} {H' : Hp}, Inv (gxC X s3 H3 cenv fp (A2.over (.compLoop (.GeneratorExp elt [⟨tg, iter, ifs, 0⟩] scope gpos) 0 (.ref it) .none cenv) []) [(a, go)]) ([] ++ pinsAt fp s7.heap) σ8 H' s' → Nx H' → ∃ m', m' < m ∧ ∀ n' s0', m' < n' → Seg (model X.prog X.w) A2 (fun n s0 r s1 => r = .ok .next ∧ gxR X s3 H3 fp a gi al Q n s0 s1) (gxY X s3 H3 fp a gi al Q) n' s0' (.compLoop (.GeneratorExp elt [⟨tg, iter, ifs, 0⟩] scope gpos) 0 (.ref it) .none cenv)
        ((model X.prog X.w).den (.compLoop (.GeneratorExp elt [⟨tg, iter, ifs, 0⟩] scope gpos) 0 (.ref it) .none cenv)) [] s' := fun {s' H'} I' nx => by
      obtain ⟨m', hm, w'⟩ := hNx H' nx
      have pin' : ∀ b ∈ fp, ∀ o, s7.heap.get? b = some o → s'.heap.get? b = some o ∧ H' b = none := fun b hb o e =>
        let z := I'.pin (b, o) (List.mem_append_right _ (List.mem_append_right _ (mem_pinsAt hb e)))
        ⟨z.1, z.2.1⟩
      have hl : (wipe σ vs).length = σ8.length := by rw [← hw8, wipe_length]
      refine ⟨m', hm, fun n' s0' hn => ih m' hm n' (i + 1) s' s0' H' hn ((I'.unpinned (pins := [])).weak hl (fun j v e => ?_)) (T.keep _ _ _ st7 fun b hb o e => (pin' b hb o e).1) (fun b hb => ?_) w'⟩
      · rw [← hw8] at e
        exact (wipe_some e).1
      · obtain ⟨o, e, _⟩ := T.obj _ _ st7 b hb
        exact (pin' b hb o e).2
    cases b with
    | false =>
      simp only [Bool.false_eq_true, if_false] at q9 ⊢
      obtain ⟨m', hm, hs⟩ := fin I9 q9
      exact seg_again rfl (hs n s0 (by omega))
    | true =>
      simp only [if_true] at q9 ⊢
      have hy : ∀ v, yieldOut cenv v = yieldValue v := fun v => by simp only [yieldOut, hco, Bool.false_eq_true, if_false]
      simp only [hy]
      rw [Sem.bind_eq_wrap', Sem.bind_eq_wrap', Sem.wrap_wrap, Sem.wrap_wrap]
      refine seg_wrap (wpAny_mono (pe.run _ s9 σ8 H9 _ I9 q9) (fun z s10 ⟨yv, H10, I10, r10, k, ey, qk⟩ => ?_) fun _ _ e => e.elim)
      subst ey
      cases r10
      obtain ⟨n', rfl⟩ : ∃ n', n = n' + 1 := ⟨n - 1, by omega⟩
      refine seg_at (seg_yield rfl rfl rfl ⟨k, H10, rfl, gx_out hgo I10, fun e => ?_, fun e s' e1 e2 e3 => ?_⟩)
      · subst e
        rw [if_neg (by cases al <;> simp)] at qk
        exact qk
      · rw [if_pos e] at qk
        obtain ⟨m', hm, hs⟩ := fin (Inv_regen I10 e1 e2 e3) qk
        exact seg_again rfl (hs n' s' (by omega))
end

/-! ### made, and eaten by all or any -/
def tGx (al : Bool) (P : Addr) (wi : TI) (g : Value → TG) (tt : Value → TT) (te : Value → TE) (vs : List Nat) : TE := fun σ H Q => wi σ H fun J H1 => GxR.TabG H1 P ∧ ∀ H2, GxR.Tabbed P H1 H2 → ∀ code, ∃ W : Nat → Nat → Hp → Prop, (∃ m, W 0 m H2) ∧ GxTurn J al (g code) (tt code) (te code) vs σ Q W
theorem over_gx {A : Around} {elt : Expr} {gs : List Comprehension} {scope : Scope} {gpos : Pos} {it : Addr} {cenv : Env} : A.over (.compLoop (.GeneratorExp elt gs scope gpos) 0 (.ref it) .none cenv) [] = A.deeper cenv := by
  first
    | rfl
    | (obtain ⟨hd, d, fr, gss, u⟩ := A; simp [Around.over, Around.deeper, marksOver, frameCount, unitsOf, envsOf, guardsOf, pushEnvs, pushGuards, Code.envs, Code.env?, Code.isFrame, Code.guards, Code.isGuard, Code.weight, Code.frames, Code.isCreation, Code.isCaller, Code.cUnits])
section
variable {X : Cx} {pins : List (Addr × Obj)} {σ : L2.St} {H : Hp} {s : Shared}
def GxZ (X : Cx) (s3 : Shared) (H3 : Hp) (fp : List Addr) (a : Addr) (gi : Nat) (al : Bool) (Q : VK) (m : Nat) (s : Shared) : Prop :=
  s.heap.IsGen a gi ∧ s.heap.NoLimit ∧ AllBare s.gens ∧ ∃ gs, s.gens[gi]? = some gs ∧ gs.Goes (model X.prog X.w) X.A.in1.in1 (fun n s0 r s1 => r = .ok .next ∧ gxR X s3 H3 fp a gi al Q n s0 s1) (gxY X s3 H3 fp a gi al Q) m (.send .none) (s.setGen gi .running)
theorem gx_step {s3 : Shared} {H3 : Hp} {fp : List Addr} {a : Addr} {gi : Nat} {al : Bool} {Q : VK} (hh : X.A.handled = none) (hroom : X.A.depth < recursionLimit) (I3 : Inv X pins σ H3 s3) (hfp : ∀ b ∈ fp, FpOk X pins H3 b) :
    ∀ m s, GxZ X s3 H3 fp a gi al Q m s → wpAny (model X.prog X.w) X.A.in1 (pyNext (.ref a)) (fun o s' => match o with
      | none => EP X pins σ Q (.bool al) s'
      | some v => ∃ k, v = .bool k ∧ if k = al then (∃ m', m' < m ∧ GxZ X s3 H3 fp a gi al Q m' s') else EP X pins σ Q (.bool (!al)) s') (fun _ _ => False) s := by
  intro m s ⟨hg, hl, hb, gs, hgs, hgo⟩
  have back : ∀ {H' : Hp} {s1 : Shared}, GxOut X s3 H3 fp a gi H' s1 → Inv X pins σ H' s1 := fun {H' s1} o => I3.call' (ch := fp) o.os o.un o.hok o.bare fun b hb => ⟨(hfp b hb).2.2.2.1, (hfp b hb).2.1, (hfp b hb).2.2.2.2.1, (hfp b hb).2.2.2.2.2⟩
  have hgl : gi < s.gens.size := (Array.getElem?_eq_some_iff.mp hgs).1
  refine wpAny_gsz (n := gi + 1) hgl (wpAny_pyNext_genexpQ (A := X.A.in1) hh hl hroom hg hgs hgo (fun v s1 gs' hbare hv => ?_) fun s1 hp h' hk => ?_)
  · intro hsz
    obtain ⟨k, H', rfl, out, q1, q2⟩ := hv
    refine ⟨k, rfl, ?_⟩
    have hb1 : AllBare (s1.setGen gi gs').gens := allBare_setGen out.bare hbare
    by_cases hk : k = al
    · rw [if_pos hk]
      have kap := q2 hk ((s1.setGen gi gs').setGen gi .running) rfl rfl (allBare_setGen hb1 rfl)
      cases m with
      | zero => exact kap.elim
      | succ m =>
        refine ⟨m, Nat.lt_succ_self m, out.gen, out.lim, hb1, gs', setGen_at ?_, kap⟩
        have q : (s1.setGen gi gs').gens.size = s1.gens.size := setGen_size _ _ _
        have hsz' : gi + 1 ≤ (s1.setGen gi gs').gens.size := hsz
        omega
    · rw [if_neg hk]
      exact ⟨.bl (!al), H', Inv_regen (back out) rfl rfl hb1, rfl, q1 (by cases k <;> cases al <;> simp_all)⟩
  · intro _
    obtain ⟨H', out, q⟩ := hp
    have hb1 : AllBare (s1.setGen gi .finished).gens := allBare_setGen out.bare rfl
    have I1 := Inv_regen (s' := s1.setGen gi .finished) (back out) rfl rfl hb1
    exact ⟨.bl al, H', I1.kept (t' := (s1.setGen gi .finished).toks) hk, rfl, q⟩
theorem gx_made {c P : Addr} {elt tg iter : Expr} {ifs : List Expr} {scope : Scope} {own : List (Str × Nat)} {gpos : Pos} {al : Bool} {Q : VK} {wi : TI} {g : Value → TG} {tt : Value → TT} {te : Value → TE} {Q' : Value → Shared → Prop}
    (hc : X.calm = true) (hN : X.N.Nodup) (hr : X.A.depth < recursionLimit) (TB : GxR.TabB X.base X.mg c P) (hcode : X.env.code = .ref c) (ok : GxOk X.N X.env.scope scope own) (hi : PI X tg iter wi)
    (hgte : ∀ (s : Shared) (H : Hp) (cl : List (Str × Addr)) (C : Addr) (code : Value) (fp : List Addr) (pn : List (Addr × Obj)), PG (gxC X s H (genEnv scope cl C code builtinsNs X.env) fp (X.A.in1.in1.deeper (genEnv scope cl C code builtinsNs X.env)) pn) tg (g code) ∧
      PTs (gxC X s H (genEnv scope cl C code builtinsNs X.env) fp (X.A.in1.in1.deeper (genEnv scope cl C code builtinsNs X.env)) pn) ifs (tt code) ∧ PE (gxC X s H (genEnv scope cl C code builtinsNs X.env) fp (X.A.in1.in1.deeper (genEnv scope cl C code builtinsNs X.env)) pn) elt (te code))
    (hs : ∀ v, genFold iter X.env v = pure v) (I : Inv X pins σ H s) (h : tGx al P wi g tt te (own.map (·.2)) σ H Q)
    (hQ : ∀ s3 H3 fp a gi m s5, Inv X pins σ H3 s3 → (∀ b ∈ fp, FpOk X pins H3 b) → GxZ X s3 H3 fp a gi al Q m s5 → Q' (.ref a) s5) :
    wpAny (model X.prog X.w) X.A (eval (.GeneratorExp elt [⟨tg, iter, ifs, 0⟩] scope gpos) X.env) Q' X.xe s := by
  have hfree : ∀ y ∈ scope.names, y.2 = .free → ∃ c, X.env.cells.lookup y.1 = some c := fun y hy e => by
    rcases ok.free y hy e with k | k
    · exact I.ok.has _ (.inl k)
    · exact I.ok.has _ (.inr k)
  refine wpAny_GeneratorExp_make ok.co (closure_ok hfree) ok.nocell ok.dot ok.kind hr (thn (hi.run pins s σ H _ I h) fun xv s1 hx => thn hx fun itv s2 h2 => ?_) hs
  obtain ⟨it, fp, tn, J, H1, rfl, I1, T, st1, f1, ⟨ps, hP, ht⟩, q⟩ := h2
  refine ⟨I1.nolimit, ?_⟩
  have hPs : s2.heap.get? P = some { cls := .none, data := .fields ps } := I1.hok P _ hP
  have hPlt : P < s2.heap.objs.size := Heap.lt_size hPs
  have cd : PySem.W.CodeHd s2.heap c P := TB.code.keeps I1.bk
  have fpP : ∀ b ∈ fp, b ≠ P := fun b hb z => by
    have := (f1 b hb).1
    rw [z, hP] at this; cases this
  have cont : ∀ (code : Value) (h3 : Heap) (tk : Nat) (ps' : Array Value), Heap.ExtBut P s2.heap h3 → s2.heap.objs.size ≤ h3.objs.size → h3.get? P = some { cls := .none, data := .fields ps' } → (∃ more, ps' = ps ++ more) → TriplesOk ps'.toList →
      wpAny (model X.prog X.w) X.A (builtinsFor X.env.globals X.env.builtins) (fun bi s₄ => ∀ h', h'.Ns s₄.heap.objs.size (fun y => if y = ".0" then some (.ref it) else none) → Heap.SameBut s₄.heap.objs.size (s₄.heap.push { cls := .type "frame", data := .dict #[] }) h' →
          Q' (.ref h'.objs.size) { s₄ with
            gens := s₄.gens.push (.fresh (.compStart (.GeneratorExp elt [⟨tg, iter, ifs, 0⟩] scope gpos) 0 (.ref it) .none (genEnv scope (cloFrom X.env.cells scope.names []) s₄.heap.objs.size code bi X.env))),
            toks := s₄.toks + 1 + 1 + 1,
            heap := h'.push { cls := .type "generator", data := .fields #[.int s₄.gens.size 0, .str "<genexpr>" (s₄.toks + 1), .str (X.env.qual ++ "<genexpr>") (s₄.toks + 1 + 1)] } }) X.xe { s2 with heap := h3, toks := tk } := by
    intro code h3 tk ps' hx hsz hP3 hmore ht3
    obtain ⟨bm, ob, e1, e2, e3, e4, e5, e6, e7, e8⟩ := TB.bm
    have keep3 : ∀ b u, b ≠ P → s2.heap.get? b = some u → h3.get? b = some u := fun b u hb e => hx b u hb e
    refine wpAny_builtinsFor (m := X.mg) (by rw [I1.ok.glob]; exact (I1.mod.glob.keeps I1.bk).extBut hx TB.gP) e1 e2 (keep3 _ _ e4 (I1.bk _ _ e5)) e6 e7 e8 ?_
    obtain ⟨more, rfl⟩ := hmore
    have I3 := GxR.inv_tab (more := more) (h' := h3) (g' := s2.gens) (d' := s2.drawn) (t' := tk) I1 hP keep3 hP3 I1.bare
    obtain ⟨W, ⟨m0, w0⟩, turn⟩ := q (upd H1 P (.tbl (ps ++ more))) ⟨⟨_, upd_same, ht3⟩, fun b hb => upd_ne hb⟩ code
    have f3 : ∀ b ∈ fp, FpOk X pins (upd H1 P (.tbl (ps ++ more))) b := fun b hb => ⟨by rw [upd_ne (fpP b hb)]; exact (f1 b hb).1, (f1 b hb).2⟩
    have st3 : tn 0 h3 := T.keep _ _ _ st1 fun b hb o e => keep3 b o (fpP b hb) e
    have fl : ∀ b ∈ fp, b < h3.objs.size := fun b hb => by
      obtain ⟨o, e, _⟩ := T.obj _ _ st3 b hb
      exact Heap.lt_size e
    intro h' hn' hs'
    have hsz' : h'.objs.size = h3.objs.size + 1 := by rw [hs'.1, Heap.size_push]
    have keep' : ∀ b o, h3.get? b = some o → h'.get? b = some o := fun b o e => hs'.extBut b o (Nat.ne_of_lt (Heap.lt_size e)) (Heap.get?_push_of_some _ e)
    generalize hgob : ({ cls := .type "generator", data := .fields #[.int s2.gens.size 0, .str "<genexpr>" (tk + 1), .str (X.env.qual ++ "<genexpr>") (tk + 1 + 1)] } : Obj) = gob
    have hkgo : ∃ nm qn, gob = { cls := .type "generator", dict := none, data := .fields #[.int s2.gens.size 0, nm, qn], slots := #[] } ∧ ∀ h : Heap, h.get? h'.objs.size = some gob → h.IsGen h'.objs.size s2.gens.size :=
      ⟨_, _, hgob.symm, fun h e => by rw [← hgob] at e; exact ⟨_, _, _, e, rfl, rfl, rfl⟩⟩
    have hb5 : AllBare (s2.gens.push (.fresh (.compStart (.GeneratorExp elt [⟨tg, iter, ifs, 0⟩] scope gpos) 0 (.ref it) .none (genEnv scope (cloFrom X.env.cells scope.names []) h3.objs.size code builtinsNs X.env)))) := I1.bare.push rfl
    have I5 := gx_start (scope := scope) (own := own) (fp := fp) (code := code) (A' := X.A.in1.in1.over (.compLoop (.GeneratorExp elt [⟨tg, iter, ifs, 0⟩] scope gpos) 0 (.ref it) .none (genEnv scope (cloFrom X.env.cells scope.names []) h3.objs.size code builtinsNs X.env)) [])
      (h5 := h'.push gob) (tk := tk + 1 + 1 + 1) (go := gob) (a := h'.objs.size) I3 ok hN (fun b hb => ⟨f3 b hb, fl b hb⟩) (by rw [over_gx]; exact Around.frames_deeper I.ok.frames) (fun hc => I.ok.hd hc) (fun b o e => Heap.get?_push_of_some _ (keep' b o e)) (hn'.push _) hb5 (by rw [← hgob]; exact Heap.get?_push_size _ rfl) (by rw [hsz']; exact Nat.lt_succ_self _) (fun v z => by rw [← hgob] at z; cases z)
    refine hQ _ _ fp h'.objs.size s2.gens.size (m0 + 1) _ I3 f3 ⟨(by obtain ⟨_, _, _, hk9⟩ := hkgo; exact hk9 _ (by rw [← hgob]; exact Heap.get?_push_size _ rfl)), I5.nolimit, hb5, _, Array.getElem?_push_size .., rfl, ?_⟩
    obtain ⟨pg, pt, pe⟩ := hgte { s2 with heap := h3, toks := tk } (upd H1 P (.tbl (ps ++ more))) (cloFrom X.env.cells scope.names []) h3.objs.size code fp [(h'.objs.size, gob)]
    rw [← over_gx (A := X.A.in1.in1) (elt := elt) (gs := [⟨tg, iter, ifs, 0⟩]) (scope := scope) (gpos := gpos) (it := it)] at pg pt pe
    have hnf : ∀ b ∈ fp, (upd H1 P (.tbl (ps ++ more))) b = none := fun b hb => (f3 b hb).1
    have st5 : tn 0 (h'.push gob) := T.keep _ _ _ st3 fun b _ o e => Heap.get?_push_of_some _ (keep' b o e)
    have loop := gx_seg (A2 := X.A.in1.in1) (al := al) (Q := Q) (gpos := gpos) (scope := scope) (iter := iter) (it := it) (gi := s2.gens.size) hc (show (genEnv scope (cloFrom X.env.cells scope.names []) h3.objs.size code builtinsNs X.env).scope.isCoroutine = false from ok.co) hkgo T pg pt pe (fun b hb z => by have q9 := fl b hb; rw [z, hsz'] at q9; exact absurd q9 (Nat.not_lt.mpr (Nat.le_succ _))) turn
    generalize hss : Shared.setGen _ s2.gens.size .running = ss
    have I6 : Inv _ [] (wipe σ (own.map (·.2))) (upd H1 P (.tbl (ps ++ more))) ss := Inv_regen I5 (by rw [← hss]; rfl) (by rw [← hss]; rfl) (by rw [← hss]; exact allBare_setGen hb5 rfl)
    have st6 : tn 0 ss.heap := by rw [← hss]; exact st5
    have loop := loop m0 (m0 + 1) 0 ss ss _ (Nat.lt_succ_self _) I6 st6 hnf w0
    show Seg _ X.A.in1.in1 _ _ _ ss _ ((compStart (.GeneratorExp elt [⟨tg, iter, ifs, 0⟩] scope gpos) 0 (.ref it) .none (genEnv scope (cloFrom X.env.cells scope.names []) h3.objs.size code builtinsNs X.env)).onRaise (leaving _)) [] ss
    unfold compStart
    rw [Sem.onRaise_eq_wrap]
    show Seg _ X.A.in1.in1 _ _ _ ss _ ((ask >>= _).wrap _ _ _ _) [] ss
    refine seg_bind_wrap (wpAny_askSetting ?_)
    split
    · exact seg_again rfl loop
    · first
        | exact seg_bind_wrap (wpAny_rule (seg_bind_wrap (wpAny_standAt (seg_bind_wrap (T.self _ 0 ss _ _ st6 (seg_again rfl loop))))))
        | (refine seg_bind_wrap (wpAny_rule ?_); show Seg _ X.A.in1.in1 _ _ _ ss _ ((standAt iter.pos >>= _).wrap _ _ _ _) [] ss; exact seg_bind_wrap (wpAny_standAt (seg_bind_wrap (T.self _ 0 ss _ _ st6 (seg_again rfl loop)))))
  cases hf : codeAmong gpos ps.toList with
  | none =>
    refine wpAny_genexprCodeX hcode (cd.code hPs ht) (cd.tab hPs) hf fun c' h' tk hx hge hlt hco' _ htab' _ => ?_
    obtain ⟨o1, vs, f1', tf, fl, tg', inF, tx, tt', op, _, _, _, _, _, _, _, _, _, htr, _⟩ := hco'
    exact cont _ h' tk _ hx (Nat.le_trans hge (Nat.le_of_lt hlt)) htab'.2 ⟨_, rfl⟩ htr
  | some cv =>
    refine wpAny_genexprCode_hit hcode (cd.code hPs ht) hf ?_
    exact cont cv s2.heap s2.toks ps (Heap.ExtBut.refl _ _) (Nat.le_refl _) hPs ⟨#[], by simp⟩ ht
end

section
variable {X : Cx}
theorem pe_gxAll {c P : Addr} {elt tg iter : Expr} {ifs : List Expr} {scope : Scope} {own : List (Str × Nat)} {p pos gpos : Pos} {wi : TI} {g : Value → TG} {tt : Value → TT} {te : Value → TE} {k : Nat}
    (hc : X.calm = true) (hN : X.N.Nodup) (hr : Room k X.A) (hg : Gl X "all") (hm : X.mg "all" = none) (TB : GxR.TabB X.base X.mg c P) (hcode : X.env.code = .ref c) (ok : GxOk X.N X.env.scope scope own) (hi : PI X tg iter wi)
    (hgte : ∀ (s : Shared) (H : Hp) (cl : List (Str × Addr)) (C : Addr) (code : Value) (fp : List Addr) (pn : List (Addr × Obj)), PG (gxC X s H (genEnv scope cl C code builtinsNs X.env) fp (X.A.in1.in1.deeper (genEnv scope cl C code builtinsNs X.env)) pn) tg (g code) ∧
      PTs (gxC X s H (genEnv scope cl C code builtinsNs X.env) fp (X.A.in1.in1.deeper (genEnv scope cl C code builtinsNs X.env)) pn) ifs (tt code) ∧ PE (gxC X s H (genEnv scope cl C code builtinsNs X.env) fp (X.A.in1.in1.deeper (genEnv scope cl C code builtinsNs X.env)) pn) elt (te code))
    (hs : ∀ v, genFold iter X.env v = pure v) (he : starEach [.GeneratorExp elt [⟨tg, iter, ifs, 0⟩] scope gpos] X.env = (false, eval (.GeneratorExp elt [⟨tg, iter, ifs, 0⟩] scope gpos) X.env) :: starEach [] X.env) :
    PE X (.Call (.Name "all" p) [.GeneratorExp elt [⟨tg, iter, ifs, 0⟩] scope gpos] [] pos) (tGx true P wi g tt te (own.map (·.2))) := by
  refine ⟨fun pins s σ H Q I h => ?_⟩
  refine wpAny_Call_Name_kw (ld_blt I hg hm boot_all ?_)
  refine PyProof.Rows.callWith_builtin1 ?_ he (by rfl)
  rw [he]
  show wpAny _ _ (spliced ((false, eval (.GeneratorExp elt [⟨tg, iter, ifs, 0⟩] scope gpos) X.env) :: backTo pos (starEach [] X.env))) _ _ s
  have hd : X.A.depth < recursionLimit := by have := hr.dp; omega
  refine Calls.spliced_cons (gx_made (al := true) (Q := Q) hc hN hd TB hcode ok hi hgte hs I h fun s3 H3 fp a gi m s5 I3 f3 Z => ?_)
  refine Calls.spliced_nil ?_
  refine call_allI Z.1 (all_loopI (GxZ X s3 H3 fp a gi true Q) (fun m s hz => wpAny_mono (gx_step hr.hd hd I3 f3 m s hz) (fun o s' q => ?_) fun _ _ e => e) m s5 Z)
  cases o with
  | none => exact q
  | some v => exact q
theorem pe_gxAny {c P : Addr} {elt tg iter : Expr} {ifs : List Expr} {scope : Scope} {own : List (Str × Nat)} {p pos gpos : Pos} {wi : TI} {g : Value → TG} {tt : Value → TT} {te : Value → TE} {k : Nat}
    (hc : X.calm = true) (hN : X.N.Nodup) (hr : Room k X.A) (hg : Gl X "any") (hm : X.mg "any" = none) (TB : GxR.TabB X.base X.mg c P) (hcode : X.env.code = .ref c) (ok : GxOk X.N X.env.scope scope own) (hi : PI X tg iter wi)
    (hgte : ∀ (s : Shared) (H : Hp) (cl : List (Str × Addr)) (C : Addr) (code : Value) (fp : List Addr) (pn : List (Addr × Obj)), PG (gxC X s H (genEnv scope cl C code builtinsNs X.env) fp (X.A.in1.in1.deeper (genEnv scope cl C code builtinsNs X.env)) pn) tg (g code) ∧
      PTs (gxC X s H (genEnv scope cl C code builtinsNs X.env) fp (X.A.in1.in1.deeper (genEnv scope cl C code builtinsNs X.env)) pn) ifs (tt code) ∧ PE (gxC X s H (genEnv scope cl C code builtinsNs X.env) fp (X.A.in1.in1.deeper (genEnv scope cl C code builtinsNs X.env)) pn) elt (te code))
    (hs : ∀ v, genFold iter X.env v = pure v) (he : starEach [.GeneratorExp elt [⟨tg, iter, ifs, 0⟩] scope gpos] X.env = (false, eval (.GeneratorExp elt [⟨tg, iter, ifs, 0⟩] scope gpos) X.env) :: starEach [] X.env) :
    PE X (.Call (.Name "any" p) [.GeneratorExp elt [⟨tg, iter, ifs, 0⟩] scope gpos] [] pos) (tGx false P wi g tt te (own.map (·.2))) := by
  refine ⟨fun pins s σ H Q I h => ?_⟩
  refine wpAny_Call_Name_kw (ld_blt I hg hm boot_any ?_)
  refine PyProof.Rows.callWith_builtin1 ?_ he (by rfl)
  rw [he]
  show wpAny _ _ (spliced ((false, eval (.GeneratorExp elt [⟨tg, iter, ifs, 0⟩] scope gpos) X.env) :: backTo pos (starEach [] X.env))) _ _ s
  have hd : X.A.depth < recursionLimit := by have := hr.dp; omega
  refine Calls.spliced_cons (gx_made (al := false) (Q := Q) hc hN hd TB hcode ok hi hgte hs I h fun s3 H3 fp a gi m s5 I3 f3 Z => ?_)
  refine Calls.spliced_nil ?_
  refine call_anyI Z.1 (any_loopI (GxZ X s3 H3 fp a gi false Q) (fun m s hz => wpAny_mono (gx_step hr.hd hd I3 f3 m s hz) (fun o s' q => ?_) fun _ _ e => e) m s5 Z)
  cases o with
  | none => exact q
  | some v => exact q
end

/-! ### over typed data -/
def Stat.gx (S : Stat) (scope : Scope) (code : Value) : Stat := { S with sc := scope, fn := fun _ => false, k := S.k - 3, code := code }
theorem IsCx.gx {S : Stat} {X : Cx} (hX : IsCx S X) (hk : 3 ≤ S.k) (s : Shared) (H : Hp) (scope : Scope) (cl : List (Str × Addr)) (C : Addr) (code : Value) (fp : List Addr) (pn : List (Addr × Obj)) :
    IsCx (S.gx scope code) (gxC X s H (genEnv scope cl C code builtinsNs X.env) fp (X.A.in1.in1.deeper (genEnv scope cl C code builtinsNs X.env)) pn) where
  prog := hX.prog
  w := hX.w
  K := hX.K
  mg := hX.mg
  base := hX.base
  N := hX.N
  sc := rfl
  fn := rfl
  room := by
    have h := hX.room
    obtain ⟨k, hk⟩ : ∃ k, S.k = k + 3 := ⟨S.k - 3, by omega⟩
    rw [hk] at h
    show Room (S.k - 3) _
    rw [hk]
    exact (Room.in1 (Room.in1 h)).deeper _
  calm := hX.calm
  code := rfl
  xe := rfl
def gxB (N : List Str) (sc scope : Scope) (own : List (Str × Nat)) : Bool := blkC N sc scope own && (!scope.isCoroutine && ((scope.names.all fun y => match y.2 with | .cell => false | _ => true) && decide (scope.names.lookup (".0" : Str) = some .local)))
theorem gxOk_by {N : List Str} {sc scope : Scope} {own : List (Str × Nat)} (h : gxB N sc scope own = true) : GxOk N sc scope own := by
  unfold gxB at h
  simp only [Bool.and_eq_true, Bool.not_eq_true', List.all_eq_true, decide_eq_true_eq] at h
  obtain ⟨h1, h2, h3, h4⟩ := h
  refine ⟨blkOk_by h1, h2, fun y hy e => ?_, h4⟩
  have := h3 y hy
  rw [e] at this
  cases this
/-- all and any over what may fail; a turn that does not pass is none -/
def quantM {α : Type} (al : Bool) (f : α → Option (Option Bool)) : List α → Option Bool
  | [] => some al
  | x :: xs => (f x).bind fun r => if r = some (!al) then some (!al) else quantM al f xs
section
variable {S : Stat} {γ : Gm} {σ : L2.St} {H F : Hp}
theorem AtH.gx (scope : Scope) (code : Value) (h : AtH S H F) : AtH (S.gx scope code) H F := ⟨h.ext, h.hf, h.f0, h.new, h.tabs⟩
theorem Own.gx (scope : Scope) (code : Value) {a : Addr} {d : PyData} (h : Own S H F a d) : Own (S.gx scope code) H F a d := by
  cases d <;> first | exact h | exact h.elim
theorem At.gx (scope : Scope) (code : Value) (h : At S γ σ H F) : At (S.gx scope code) γ σ H F where
  toAtH := h.toAtH.gx scope code
  len := h.len
  sh := h.sh
  ow := fun i d e => let ⟨a, h1, h2⟩ := h.ow i d e; ⟨a, h1, Own.gx scope code h2⟩
  apart := h.apart
theorem ext_tabbed {P : Addr} {H H2 : Hp} (hT : GxR.TabG H P) (t : GxR.Tabbed P H H2) : Ext H H2 where
  keep := fun a o e n => by
    by_cases ha : a = P
    · obtain ⟨ps, h1, _⟩ := hT
      rw [ha, h1] at e
      exact absurd (Option.some.inj e).symm (n ps)
    · rw [t.2 a ha]; exact e
  tab := fun a ps e => by
    by_cases ha : a = P
    · obtain ⟨ps', h1, h2⟩ := t.1
      exact ⟨ps', by rw [ha]; exact h1, fun _ => h2⟩
    · exact ⟨ps, by rw [t.2 a ha]; exact e, id⟩
variable {tg iter elt : Expr} {ifs : List Expr} {scope : Scope} {own : List (Str × Nat)} {p pos gpos : Pos} {τ : Type} {encA : τ → PyData} {xs : List τ} {f : τ → Option (Option Bool)} {k al : Bool} {c P : Addr}
theorem gx_read (hi : IX S γ tg iter (xs.map encA)) (hP : P ∈ S.tabs) (hb : ∀ code, ∀ x ∈ xs, CBO (S.gx scope code) (wipeG γ (own.map (·.2))) tg ifs elt (own.map (·.2)) (encA x) eB (f x)) (hr : quantM al f xs = some k) (at_ : At S γ σ H F) {Q : VK}
    (q : ∀ H' F', At S γ σ H' F' → Ex2 H F H' F' → Q (.bl k) H') :
    tGx al P (wI S tg iter) (fun code => wG (S.gx scope code) tg) (fun code => tTs (S.gx scope code) ifs) (fun code => wE (S.gx scope code) elt) (own.map (·.2)) σ H Q := by
  refine hi σ H F at_ _ fun J H1 F1 a1 x1 hz w => ⟨a1.tabs P hP, fun H2 t code => ?_⟩
  have e12 : Ext H1 H2 := ext_tabbed (a1.tabs P hP) t
  have x12 : Ex2 H1 F1 H2 F1 := ⟨e12, Le.refl F1, fun a o h n => by rw [n] at h; cases h⟩
  have hf2 : HF H2 F1 := ⟨a1.hf.ext e12, a1.hf.ntb⟩
  refine ⟨fun i m H3 => ∃ F3, At S γ σ H3 F3 ∧ Ex2 H1 F1 H3 F3 ∧ quantM al f (xs.drop i) = some k ∧ m = xs.length - i ∧ i ≤ xs.length, ⟨xs.length, F1, a1.ex x12 hf2, x12, hr, rfl, Nat.zero_le _⟩, ?_⟩
  rintro i m H3 ⟨F3, a3, x3, hq, hm, hile⟩
  by_cases hi : i < xs.length
  · have hil : i < (xs.map encA).length := by rw [List.length_map]; exact hi
    refine .inr ⟨w.goes i H3 hil x3.h, fun H' => ∃ F', At S γ σ H' F' ∧ Ex2 H1 F1 H' F' ∧ quantM al f (xs.drop (i + 1)) = some k, fun H' ⟨F', b1, b2, b3⟩ => ⟨xs.length - (i + 1), by omega, F', b1, b2, b3, rfl, hi⟩, fun x H4 hy => ?_⟩
    obtain ⟨d, hd, hyd⟩ := w.yields i H3 x H4 hil x3.h hy
    have hx : xs[i]? = some xs[i] := List.getElem?_eq_getElem hi
    obtain rfl : encA xs[i] = d := by rw [List.getElem?_map, hx] at hd; exact Option.some.inj hd
    rw [List.drop_eq_getElem_cons hi] at hq
    unfold quantM at hq
    obtain ⟨r, hr1, hr2⟩ := Option.bind_eq_some_iff.mp hq
    obtain ⟨γ2, is, kk, g, hsub, ts, kf, kt⟩ := hb code xs[i] (List.getElem_mem hi) r hr1
    obtain ⟨F4, a4, x4, dx⟩ : ∃ F4, At S γ σ H4 F4 ∧ Ex2 H3 F3 H4 F4 ∧ Dp S.K F4 x (encA xs[i]) := by
      rcases hyd with ⟨e1, dx⟩ | ⟨T, ys, ds, hT, e1, e2, e3, dx⟩
      · subst e1
        exact ⟨F3, a3, Ex2.refl _ _, dx.zmono x3.f⟩
      · subst e1; subst e2
        have x5 : Ex2 H3 F3 (upd H3 T (.tup ys)) (upd F3 T (.tup ys)) := ex_new a3.hf hT
        refine ⟨_, a3.ex x5 (a3.hf.new hT fun _ z => by cases z), x5, ?_⟩
        rw [e3]
        exact .tup (SqT.of upd_same) (dx.zmono (x3.trans x5).f)
    refine g _ H4 F4 x ((a4.wipe _).gx scope code) dx _ fun σ2 b2 l2 n2 => ⟨wipe_ext l2 n2 hsub, ?_⟩
    have fin : ∀ {H5 F5 : Hp}, At (S.gx scope code) γ2 σ2 H5 F5 → Ex2 H4 F4 H5 F5 → if kk = true then wE (S.gx scope code) elt σ2 H5 fun y H6 => ∃ b : Bool, y = .bl b ∧ if b = al then (∃ F', At S γ σ H6 F' ∧ Ex2 H1 F1 H6 F' ∧ quantM al f (xs.drop (i + 1)) = some k) else Q (.bl (!al)) H6
        else (∃ F', At S γ σ H5 F' ∧ Ex2 H1 F1 H5 F' ∧ quantM al f (xs.drop (i + 1)) = some k) := by
      intro H5 F5 b5 x5
      cases kk with
      | true =>
        rw [if_pos rfl]
        obtain ⟨d', eo, ed⟩ := kt rfl
        obtain ⟨b, er, rfl⟩ : ∃ b, r = some b ∧ d' = .bool b := by
          cases r with
          | none => cases eo
          | some b => exact ⟨b, rfl, (Option.some.inj eo).symm⟩
        refine ed σ2 H5 F5 b5 _ fun y H6 F6 b6 x6 dy => ?_
        cases dy
        refine ⟨b, rfl, ?_⟩
        have x56 := x5.trans x6
        by_cases hba : b = al
        · rw [if_pos hba]
          rw [er, if_neg (by rw [hba]; cases al <;> simp)] at hr2
          exact ⟨F6, a4.ex x56 b6.hf, (x3.trans x4).trans x56, hr2⟩
        · rw [if_neg hba]
          have hbn : b = !al := by cases b <;> cases al <;> simp_all
          rw [er, if_pos (by rw [hbn])] at hr2
          cases hr2
          exact q H6 F6 (a4.ex x56 b6.hf) (x1.trans ((x3.trans x4).trans x56))
      | false =>
        rw [if_neg Bool.false_ne_true]
        obtain rfl : r = none := by
          have := kf rfl
          cases r with
          | none => rfl
          | some b => cases this
        rw [if_neg (by simp)] at hr2
        exact ⟨F5, a4.ex x5 b5.hf, (x3.trans x4).trans x5, hr2⟩
    rcases ts with ⟨e1, e2⟩ | ⟨cc, e1, tc⟩
    · subst e1
      have := fin b2 (Ex2.refl _ _)
      rw [e2] at this
      exact this
    · subst e1
      exact tc σ2 H4 F4 b2 _ fun H5 F5 b5 x5 => fin b5 x5
  · rw [List.drop_eq_nil_of_le (by omega)] at hq
    cases hq
    have e9 : i = xs.length := by omega
    refine .inl ⟨?_, q H3 F3 a3 (x1.trans x3)⟩
    have := w.stops H3 x3.h
    rw [List.length_map, ← e9] at this
    exact this
theorem pts_gx {X : Cx} {S : Stat} {ifs : List Expr} (hX : IsCx S X) (hl : ifs.length ≤ 1) : PTs X ifs (tTs S ifs) := pts_w hX hl
theorem e_gxAll (hk : 3 ≤ S.k) (hc : S.code = .ref c) (hP : P ∈ S.tabs) (TB : GxR.TabB S.base S.mg c P) (hg : IsGl S "all") (hm : S.mg "all" = none) (hi : IX S γ tg iter (xs.map encA))
    (hb : ∀ code, ∀ x ∈ xs, CBO (S.gx scope code) (wipeG γ (own.map (·.2))) tg ifs elt (own.map (·.2)) (encA x) eB (f x)) (hr : quantM true f xs = some k) (hN : S.N.Nodup) (ok : gxB S.N S.sc scope own = true) (h1 : ifs.length ≤ 1) (hs : ∀ (X : Cx) v, genFold iter X.env v = pure v)
    (he : ∀ X : Cx, starEach [.GeneratorExp elt [⟨tg, iter, ifs, 0⟩] scope gpos] X.env = (false, eval (.GeneratorExp elt [⟨tg, iter, ifs, 0⟩] scope gpos) X.env) :: starEach [] X.env) :
    EJ S γ (.Call (.Name "all" p) [.GeneratorExp elt [⟨tg, iter, ifs, 0⟩] scope gpos] [] pos) (.bool k) := fun σ H F at_ Q q =>
  wE_of (fun X hX => pe_gxAll hX.calm (by rw [hX.N]; exact hN) hX.room (hX.gl hg) (hX.mgn hm) (by rw [hX.base, hX.mg]; exact TB) (by rw [hX.code]; exact hc) (by rw [hX.N, hX.sc]; exact gxOk_by ok) (pi_w hX)
      (fun s H cl C code fp pn => ⟨pg_w (hX.gx hk s H scope cl C code fp pn), pts_gx (hX.gx hk s H scope cl C code fp pn) h1, pe_w (hX.gx hk s H scope cl C code fp pn)⟩) (hs X) (he X))
    (gx_read hi hP hb hr at_ fun H' F' a1 x1 => q (.bl k) H' F' a1 x1 (.bl k))
theorem e_gxAny (hk : 3 ≤ S.k) (hc : S.code = .ref c) (hP : P ∈ S.tabs) (TB : GxR.TabB S.base S.mg c P) (hg : IsGl S "any") (hm : S.mg "any" = none) (hi : IX S γ tg iter (xs.map encA))
    (hb : ∀ code, ∀ x ∈ xs, CBO (S.gx scope code) (wipeG γ (own.map (·.2))) tg ifs elt (own.map (·.2)) (encA x) eB (f x)) (hr : quantM false f xs = some k) (hN : S.N.Nodup) (ok : gxB S.N S.sc scope own = true) (h1 : ifs.length ≤ 1) (hs : ∀ (X : Cx) v, genFold iter X.env v = pure v)
    (he : ∀ X : Cx, starEach [.GeneratorExp elt [⟨tg, iter, ifs, 0⟩] scope gpos] X.env = (false, eval (.GeneratorExp elt [⟨tg, iter, ifs, 0⟩] scope gpos) X.env) :: starEach [] X.env) :
    EJ S γ (.Call (.Name "any" p) [.GeneratorExp elt [⟨tg, iter, ifs, 0⟩] scope gpos] [] pos) (.bool k) := fun σ H F at_ Q q =>
  wE_of (fun X hX => pe_gxAny hX.calm (by rw [hX.N]; exact hN) hX.room (hX.gl hg) (hX.mgn hm) (by rw [hX.base, hX.mg]; exact TB) (by rw [hX.code]; exact hc) (by rw [hX.N, hX.sc]; exact gxOk_by ok) (pi_w hX)
      (fun s H cl C code fp pn => ⟨pg_w (hX.gx hk s H scope cl C code fp pn), pts_gx (hX.gx hk s H scope cl C code fp pn) h1, pe_w (hX.gx hk s H scope cl C code fp pn)⟩) (hs X) (he X))
    (gx_read hi hP hb hr at_ fun H' F' a1 x1 => q (.bl k) H' F' a1 x1 (.bl k))
end
end SM

set_option autoImplicit false
set_option Elab.async false
set_option linter.all false
set_option maxRecDepth 100000
set_option maxHeartbeats 4000000
namespace SM
open PySem PySem.Spec PyProof.Rows L2

/-! ### defs whose code has a table -/
def FunC (K : PySem.W.Frag) (x qual : Str) (st : Stmt) (f : Addr) (fd : FuncData) (c : Addr) : Prop :=
  (∃ oc od kV doc pm an ct osl, fd = PySem.W.fnOf x qual (defArgs st) (defBody st) (defScope st) .none kV doc pm an (.ref c) ct ∧ K.lookup f = some ⟨oc, od, .func fd, osl⟩ ∧ PySem.W.codeIn K (.ref c) qual = true) ∧ PySem.W.keepIn K (.ref f) = true
theorem FunC.fn {K : PySem.W.Frag} {x qual : Str} {st : Stmt} {f c : Addr} {fd : FuncData} (h : FunC K x qual st f fd c) : Fun K x qual st f fd := by
  obtain ⟨⟨oc, od, kV, doc, pm, an, ct, osl, e, lk, hcd⟩, kp⟩ := h
  exact ⟨⟨oc, od, kV, doc, pm, an, .ref c, ct, osl, e, lk, hcd⟩, kp⟩
theorem body_run {P : Program} {w : World} {K : PySem.W.Frag} {mg : Str → Option Value} {base : Heap} {qual : Str} {st : Stmt} {f : Addr} {N ps : List Str} {k : Nat} {tabs : List Addr} {R : List PyData → PyData → Prop} (Sc : FnScope N ps (defScope st)) (cdv : Value) {A : Around} {outer : List Env} {s : Shared} {H : Hp} {vs : List V} {Q : VK} {E : XK}
    (hbody : ∀ (B F0 : Hp) (ds : List PyData) (r : PyData), ds.length = ps.length → R ds r → SJ (Stat.of P w K mg base N (defScope st) k tabs cdv B F0) (gm0 N.length ds) (defBody st) ⟨fun _ => r = .none, fun d => d = r⟩)
    (hr : Room k (A.deeper (envOfC qual (defScope st) s.heap.objs.size f cdv))) (h : spR K tabs ps.length R vs H Q E) :
    ∃ t, PSs (cxOf CX0 P w K mg base N qual (defScope st) f cdv A outer s H E).nox (defBody st) t ∧ t { nx := fun _ H' => Q .non H', rt := Q } (L2.start N vs) H := by
  obtain ⟨hl, F, ds, r, hf, tb, dv, hR, q⟩ := h
  have hX : IsCx (Stat.of P w K mg base N (defScope st) k tabs cdv H F) (cxOf CX0 P w K mg base N qual (defScope st) f cdv A outer s H E).nox :=
    ⟨rfl, rfl, rfl, rfl, rfl, rfl, rfl, rfl, hr, rfl, rfl, rfl⟩
  have hlen : ds.length = ps.length := dv.zlen ▸ hl
  have hpl : ps.length ≤ N.length := by
    have := congrArg List.length Sc.pre
    rw [List.length_take] at this
    omega
  refine ⟨_, pss_w hX, hbody H F ds r hlen hR (L2.start N vs) H F ⟨⟨Ext.refl H, hf, Le.refl F, (fun a o e n => by have n' : F a = none := n; rw [n'] at e; cases e), tb⟩, ?_, fun i d e => ?_, fun i d e => ?_, fun i j d e a h1 => ?_⟩ _ ?_ ?_⟩
  · unfold L2.start gm0
    rw [List.length_append, List.length_append, List.length_map, List.length_map, List.length_replicate, List.length_replicate, dv.zlen]
  · unfold gm0 at e
    unfold L2.start
    rw [dv.zlen]
    exact dp_start dv i d e
  · exact absurd e gm0_ow
  · exact absurd h1 gm0_ow
  · rintro γ' σ' H' F' hn a1 le
    refine q .non H' F' ⟨a1.ext, a1.f0, a1.new⟩ a1.hf ?_
    have : r = .none := hn
    rw [this]; exact .non
  · rintro d v H' F' hd a1 le dv'
    obtain rfl : d = r := hd
    exact q v H' F' ⟨a1.ext, a1.f0, a1.new⟩ a1.hf dv'
/-- what is known of a def with generator expressions -/
def GDefT (K : PySem.W.Frag) (mg : Str → Option Value) (base : Heap) (tabs : List Addr) (x : Str) (st : Stmt) (ps : List Str) : Prop := ∃ c P f fd, FunC K x x st f fd c ∧ Binds K fd ps [] ∧ mg x = some (.ref f) ∧ P ∈ tabs ∧ GxR.TabB base mg c P
theorem known_ofT {P : Program} {w : World} {K : PySem.W.Frag} {mg : Str → Option Value} {base : Heap} {tabs : List Addr} {k : Nat} {x : Str} {st : Stmt} {N ps : List Str} {R : List PyData → PyData → Prop} (D : GDefT K mg base tabs x st ps) (Sc : FnScope N ps (defScope st))
    (hb : ∀ (c T : Addr), T ∈ tabs → GxR.TabB base mg c T → ∀ (B F0 : Hp) (ds : List PyData) (r : PyData), ds.length = ps.length → R ds r → SJ (Stat.of P w K mg base N (defScope st) k tabs (.ref c) B F0) (gm0 N.length ds) (defBody st) ⟨fun _ => r = .none, fun d => d = r⟩) : Known P w K mg base tabs (k + 1) x ps.length R := by
  obtain ⟨c, T, f, fd, Fn, b, m, hT, TB⟩ := D
  refine ⟨f, fd, ps, rfl, ?_, m, Fn.2, b⟩
  obtain ⟨⟨oc, od, kV, doc, pm, an, ct, osl, rfl, lk, hcd⟩, kp⟩ := Fn
  refine fn_of lk hcd Sc (fun vs H Q E h => h.1) fun A outer s H vs Q E hr h => ?_
  obtain ⟨t, h1, h2⟩ := body_run Sc (.ref c) (A := A) (outer := outer) (s := s) (f := f) (qual := x) (hb c T hT TB) hr h
  exact ⟨t, h1.nox, h2⟩
def setO {α : Type} (xs : List α) (k : Int) (v : α) : Option (List α) := (ixN xs.length k).map fun i => xs.set i v
theorem j_setixO {S : Stat} {γ : Gm} {rest : List Stmt} {e a : Expr} {pos : Pos} {α τ : Type} {post : α → Post} {o : Option α} {enc : τ → PyData} {xs zs : List τ} {v : τ} {x : Str} {j : Nat} {k : Int} {pn pt : Pos} (hN : S.N[j]? = some x) (hv : Vis S.sc x) (hg : γ[j]? = some (.ow (.list (xs.map enc)))) (h : EJ S γ e (enc v)) (hi : EJ S γ a (.int k)) (hk : setO xs k v = some zs) (hd : (x == ("__debug__" : Str)) = false) (hcd : (x == ("__classdict__" : Str)) = false)
    (ha : ∀ (X : Cx) v, assign (.Subscript (.Name x pn) a pt) X.env v = (do
      let ov ← holding [v] (eval (.Name x pn) X.env)
      let iv ← holding [v, ov] (eval a X.env)
      standAt pt
      holding [v, ov, iv] (setItem ov iv v)
      release [v, ov, iv] []))
    (hs : ∀ X : Cx, swapsWithSole [.Subscript (.Name x pn) a pt] e pos.line X.env = pure false) (hw : ∀ X : Cx, swappedStores [.Subscript (.Name x pn) a pt] e X.env = pure none) (he : ∀ X : Cx, (assignEach [.Subscript (.Name x pn) a pt] X.env).map (·.2) = [assign (.Subscript (.Name x pn) a pt) X.env])
    (hr : J S (γ.set j (.ow (.list (zs.map enc)))) rest post o) : J S γ (.Assign [.Subscript (.Name x pn) a pt] e pos :: rest) post o := by
  unfold setO at hk
  obtain ⟨i, h1, rfl⟩ := Option.map_eq_some_iff.mp hk
  exact j_setix hN hv hg h hi h1 hd hcd ha hs hw he hr
theorem sp_startT {K : PySem.W.Frag} {H : Hp} {a : Addr} {nss : List Int} {R : List PyData → PyData → Prop} {E : XK} {cs : List (Addr × Addr)} (ht : ∀ p ∈ cs, H p.2 = some (.tbl #[])) (hS : SqL K H a (nss.map V.int)) (hR : R [.list (nss.map .int)] (.bool true)) : spR K (cs.map (·.2)) 1 R [.ref a] H (fun v _ => v = .bl true) E := by
  have dpI : ∀ F ns, DpAll K F (List.map V.int ns) (ns.map PyData.int) := fun F ns => by
    induction ns with
    | nil => exact .nil
    | cons x r ih => exact .cons (.int x) ih
  have hS' : SqL K (fun b => match H b with | some (.tbl _) => none | o => o) a (nss.map V.int) := by
    rcases hS with h | h
    · rcases h with h | ⟨o, h⟩
      · exact .inl (.inl (by show (match H a with | some (.tbl _) => none | o => o) = _; rw [h]))
      · exact .inl (.inr ⟨o, by show (match H a with | some (.tbl _) => none | o => o) = _; rw [h]⟩)
    · exact .inr h
  refine ⟨rfl, _, [.list (nss.map .int)], .bool true, ⟨fun a o h => ?_, fun a ps z => ?_⟩, (fun P hP => ?_), .cons (.lst hS' (dpI _ nss)) .nil, hR, fun v H' F' _ _ dv => by cases dv; rfl⟩
  · have h : (match H a with | some (.tbl _) => none | o => o) = some o := h
    split at h
    · cases h
    · exact h
  · have z : (match H a with | some (.tbl _) => none | o => o) = some (.tbl ps) := z
    split at z
    · cases z
    · rename_i hn
      exact hn _ z
  · obtain ⟨p, hp, rfl⟩ := List.mem_map.mp hP
    exact ⟨#[], ht p hp, trivial⟩
theorem tabIn_of {K : PySem.W.Frag} {x : Str} {f c P : Addr} {fd : FuncData} {oc oc' : Value} {od od' : Option Addr} {sl sl' : Array (Option Value)} {vs : Array Value} (a : PySem.W.nsIn K mainGlobals x = some (some (.ref f))) (l : K.lookup f = some ⟨oc, od, .func fd, sl⟩) (hc : fd.code = .ref c) (m : K.lookup c = some ⟨oc', od', .fields vs, sl'⟩) (p : (vs[11]? : Option Value) = some (.ref P)) : PySem.W.tabIn K x = some (c, P) := by
  unfold PySem.W.tabIn
  rw [a]
  simp only [l, hc, m, p]
/-- walk_ofTs, and what the top says of the defs' tables -/
theorem walk_ofG {l : PySem.W.OpenLaw} {n k : Nat} {q : Program} {loose : List Str} {XP : (Str → Option Value) → Heap → Prop} {YP : World → Heap → Prop} {d : DefRec} {K : Params → PySem.W.Frag} {CX : World → CXT} {x : Str}
    (hn : l.most = some n) (hn2 : n ≤ sizeLine) (hdf : d.params.defaults = []) (hr : Room k callerA) (hY : ∀ (w : World) (h : Heap), YP w h → (K w.params).In h)
    (F : ∀ (w : World) (mg : Str → Option Value) (fa : Addr) (h : Heap), (∀ (y : Str) (dd : DefRec) (c P : Addr), (recsOf q).find? (fun e => e.name == y) = some dd → PySem.W.tabIn (K w.params) y = some (c, P) → PySem.W.CodeHd h c P ∧ h.get? P = some { cls := .none, data := .fields #[] }) →
      (K w.params).In h → h.Ns mainGlobals mg → mg d.name = some (.ref fa) → LamX.LawAtS l w (K w.params) (CX w) k n x mg fa h)
    (hCX : ∀ (w : World) (H : Hp) (s : Shared) (e : Value) (s' : Shared), CX w [] H s (fun _ _ _ => False) e s' → False) :
    PySem.W.WalkO q loose XP YP l.row.toRowW d [] (fun f vs => PySem.call f vs) := by
  refine Att.attach_callB hn hdf fun w s₀ s₁ mg mb fa o pm cd doc a vs ns G Y ho hd hcd hmg hobj hints hlen hbits hg => ?_
  have KX := hY w _ Y
  obtain ⟨fd, cs, sp, hT, nT, C, hb, hsp, hF⟩ := F w mg fa _ (fun y dd c P hr ht => PySem.W.tab_of G.T KX hr ht) KX G.T.g hmg
  exact LamX.law_callTs KX G.T.g G.T.b G.T.builtins G.T.nolimit hg hT nT C G.T.bmain hobj hints (Nat.le_trans hlen hn2) hr hF hb (fun H hH hS => hsp H a ns hlen hbits hH hS) fun H e s' => hCX w H s₁ e s'
end SM

set_option autoImplicit false
set_option Elab.async false
set_option linter.all false
set_option maxRecDepth 100000
set_option maxHeartbeats 4000000
namespace SM
open PySem PySem.Spec PyProof.Rows L2
/-! ### further plain tools -/
theorem fold_rngL {β : Type} {f : β → Int → Option β} {lo : Int} {n : Nat} {t0 : β} (I : Nat → β → Prop) (h0 : I 0 t0) (hs : ∀ (k : Nat) t, k < n → I k t → ∃ t', f t (lo + (k : Int)) = some t' ∧ I (k + 1) t') : ∃ t, (rng lo (lo + (n : Int))).foldlM f t0 = some t ∧ I n t := by
  induction n with
  | zero => exact ⟨t0, by rw [rng_neg (lo := lo) (hi := lo + ((0 : Nat) : Int)) (by omega)]; rfl, h0⟩
  | succ n ih =>
    obtain ⟨t, h1, h2⟩ := ih fun k t hk => hs k t (Nat.lt_succ_of_lt hk)
    obtain ⟨t', h3, h4⟩ := hs n t (Nat.lt_succ_self n) h2
    refine ⟨t', ?_, h4⟩
    rw [rng_succ, foldlM_snoc, h1]
    exact h3
theorem ex_fold_rngL {β δ : Type} {f : β → Int → Option β} {lo hi : Int} {n : Nat} {t0 : β} {g : β → Option δ} {Q : δ → Prop} (hn : hi = lo + (n : Int)) (I : Nat → β → Prop) (h0 : I 0 t0) (hs : ∀ (k : Nat) t, k < n → I k t → ∃ t', f t (lo + (k : Int)) = some t' ∧ I (k + 1) t') (hg : ∀ t, I n t → ∃ y, g t = some y ∧ Q y) : ∃ y, ((rng lo hi).foldlM f t0).bind g = some y ∧ Q y := by
  subst hn
  obtain ⟨t, h1, h2⟩ := fold_rngL I h0 hs
  exact ex_bind h1 (hg t h2)
theorem quantM_all {α : Type} {f : α → Option (Option Bool)} {g : α → Bool} : ∀ {xs : List α}, (∀ x ∈ xs, f x = some (some (g x))) → quantM true f xs = some (xs.all g)
  | [], _ => rfl
  | x :: xs, h => by
    unfold quantM
    rw [h x List.mem_cons_self, List.all_cons]
    cases hg : g x with
    | false => rfl
    | true =>
      show quantM true f xs = _
      rw [quantM_all fun y hy => h y (List.mem_cons_of_mem _ hy)]; rfl
theorem quantM_any {α : Type} {f : α → Option (Option Bool)} {g : α → Bool} : ∀ {xs : List α}, (∀ x ∈ xs, f x = some (some (g x))) → quantM false f xs = some (xs.any g)
  | [], _ => rfl
  | x :: xs, h => by
    unfold quantM
    rw [h x List.mem_cons_self, List.any_cons]
    cases hg : g x with
    | true => rfl
    | false =>
      show quantM false f xs = _
      rw [quantM_any fun y hy => h y (List.mem_cons_of_mem _ hy)]; rfl
theorem foldR_bndE {τ ρ α : Type} {f : Unit → τ → Option (Res ρ Unit)} {xs : List τ} {inj : ρ → α} {k : Unit → Option α} {r : Option α} (hs : ∀ x ∈ xs, f () x = some (.nx ())) (hg : k () = r) : (foldR f () xs).bind (Res.elim inj k) = r := bnd (foldR_nx hs) hg
end SM

set_option autoImplicit false
set_option Elab.async false
set_option linter.all false
set_option maxRecDepth 100000
set_option maxHeartbeats 4000000
namespace K71
open PySem PySem.Spec PyProof.Rows L2 SM
def m_do_quarrel (one1 : (Int × Int × Int × Int)) (other2 : (Int × Int × Int × Int)) (pace3 : Int) : Option Bool :=
  (mulO pace3 ((Int.natAbs (one1.1 - other2.1) : Nat) : Int)).bind fun t4 =>
  (some ((one1.2.2.2 + other2.2.2.2) + t4)).bind fun room5 =>
  some ((decide (room5 < ((Int.natAbs (one1.2.1 - other2.2.1) : Nat) : Int))) || (decide (room5 < ((Int.natAbs (one1.2.2.1 - other2.2.2.1) : Nat) : Int))))
def m_told_call_quarrel (calls1 : (List (Int × Int × Int × Int))) (pace2 : Int) : Option (Option (Int × Int)) :=
  (rngO 0 ((List.length calls1 : Nat) : Int)).bind fun r3 =>
  (foldR (ρ := (Option (Int × Int))) (β := Unit) (fun (s4 : Unit) (x5 : Int) =>
  (rngO (x5 + (1 : Int)) ((List.length calls1 : Nat) : Int)).bind fun r6 =>
  (foldR (ρ := (Option (Int × Int))) (β := Unit) (fun (s7 : Unit) (x8 : Int) =>
  (atI calls1 x5).bind fun t9 =>
  (atI calls1 x8).bind fun t10 =>
  (m_do_quarrel t9 t10 pace2).bind fun t11 =>
  if t11 = true then (some (.ret (some (x5, x8))))
  else some (.nx ())) (() : Unit) r6).bind (Res.elim .ret fun (s7 : Unit) =>
  some (.nx ()))) (() : Unit) r3).bind (Res.elim id fun (s4 : Unit) =>
  some none)
def m_side_bounds (calls1 : (List (Int × Int × Int × Int))) (pace2 : Int) (time3 : Int) (side4 : Int) : Option (Int × Int) :=
  (compM (fun (x5 : (Int × Int × Int × Int)) => ((atI [x5.1, x5.2.1, x5.2.2.1, x5.2.2.2] side4).bind fun t6 => ((mulO pace2 ((Int.natAbs (x5.1 - time3) : Nat) : Int)).bind fun t7 => (some (some (t6, (x5.2.2.2 + t7))))))) calls1).bind fun rooms9 =>
  (List.max? (List.map (fun (x10 : (Int × Int)) => (x10.1 - x10.2)) rooms9)).bind fun t11 =>
  (List.min? (List.map (fun (x12 : (Int × Int)) => (x12.1 + x12.2)) rooms9)).bind fun t13 =>
  some (t11, t13)
def m_whereabouts (calls1 : (List (Int × Int × Int × Int))) (pace2 : Int) (time3 : Int) : Option (Option (Int × Int × Int × Int)) :=
  (m_told_call_quarrel calls1 pace2).bind fun t4 =>
  if (!(isN ((eO (eP2 eI eI)) t4))) = true then (some none)
  else (m_side_bounds calls1 pace2 time3 (1 : Int)).bind fun t5 =>
  (m_side_bounds calls1 pace2 time3 (2 : Int)).bind fun t6 =>
  some (some (t5.1, t5.2, t6.1, t6.2))
def m_told_walk (calls1 : (List (Int × Int × Int × Int))) (pace2 : Int) (last3 : Int) : Option (Option (List (Int × Int))) :=
  (m_told_call_quarrel calls1 pace2).bind fun t4 =>
  if (!(isN ((eO (eP2 eI eI)) t4))) = true then (some none)
  else (some ([] : List (Int × Int))).bind fun found5 =>
  (rngO 0 (last3 + (1 : Int))).bind fun r6 =>
  (List.foldlM (fun (s7 : ((List (Int × Int)))) (x8 : Int) =>
  (m_whereabouts calls1 pace2 x8).bind fun t9 =>
  t9.bind fun t10 =>
  (appO s7 (t10.1, t10.2.2.1)).bind fun found12 =>
  some (found12)) ((found5) : ((List (Int × Int)))) r6).bind fun (s7 : ((List (Int × Int)))) =>
  some (some s7)
def m_are_near (one1 : (Int × Int)) (other2 : (Int × Int)) (room3 : Int) : Option Bool :=
  some ((decide (((Int.natAbs (one1.1 - other2.1) : Nat) : Int) ≤ room3)) && (decide (((Int.natAbs (one1.2 - other2.2) : Nat) : Int) ≤ room3)))
def m_is_heard_walk (calls1 : (List (Int × Int × Int × Int))) (pace2 : Int) (last3 : Int) (walk4 : (List (Int × Int))) : Option Bool :=
  if (!(decide (((List.length walk4 : Nat) : Int) = (last3 + (1 : Int))))) = true then (some false)
  else (rngO 0 last3).bind fun r5 =>
  (quantM true (fun (x6 : Int) => ((atI walk4 x6).bind fun t7 => ((atI walk4 (x6 + (1 : Int))).bind fun t8 => ((m_are_near t7 t8 pace2).bind fun t9 => (some (some t9)))))) r5).bind fun t10 =>
  if (!t10) = true then (some false)
  else (quantM true (fun (x11 : (Int × Int × Int × Int)) => ((atI walk4 x11.1).bind fun t12 => ((m_are_near t12 (x11.2.1, x11.2.2.1) x11.2.2.2).bind fun t13 => (some (some t13))))) calls1).bind fun t14 =>
  some t14
def m__law_cell (script1 : (List Int)) (k2 : Int) : Option Int :=
  if (decide (k2 < ((List.length script1 : Nat) : Int))) = true then ((atI script1 k2).bind fun t3 =>
  some t3)
  else some (((5 : Int) * k2) + (3 : Int))
def m__law_draws (cell1 : Int) (count2 : Int) : Option (List Int) :=
  (some ((Int.natAbs cell1 : Nat) : Int)).bind fun rest3 =>
  (some (decide ((1000000000000000000 : Int) ≤ rest3))).bind fun digits4 =>
  (some rest3).bind fun seed5 =>
  (some ([] : List Int)).bind fun draws6 =>
  (rngO 0 count2).bind fun r7 =>
  (List.foldlM (fun (s8 : (Int × (List Int))) (x9 : Int) =>
  (if (digits4 && (decide ((0 : Int) < s8.1))) = true then ((appO s8.2 (s8.1 % (5040 : Int))).bind fun draws17 =>
  (some (s8.1 / (5040 : Int))).bind fun rest18 =>
  some (rest18, draws17))
  else ((some ((((seed5 * (48271 : Int)) + ((x9 + (1 : Int)) * (69621 : Int))) + (11 : Int)) % (2147483647 : Int))).bind fun mixed19 =>
  (mulO mixed19 mixed19).bind fun t20 =>
  (some ((t20 + ((40692 : Int) * (x9 + (3 : Int)))) % (2147483399 : Int))).bind fun mixed21 =>
  (appO s8.2 ((mixed21 / (64 : Int)) % (5040 : Int))).bind fun draws22 =>
  some (s8.1, draws22))).bind fun (j16 : (Int × (List Int))) =>
  some (j16.1, j16.2)) ((rest3, draws6) : (Int × (List Int))) r7).bind fun (s8 : (Int × (List Int))) =>
  some s8.2
def m__law_is_integer (value1 : PyData) : Option Bool :=
  some ((isInst "int" (eD value1)) && (!(isInst "bool" (eD value1))))
def m__law_bent_row (row1 : (List (Int × Int))) (draws2 : (List Int)) (items3 : (List (Int × Int))) : Option (List (Int × Int)) :=
  (atI draws2 (0 : Int)).bind fun t4 =>
  (some (t4 % (6 : Int))).bind fun way5 =>
  (atI draws2 (1 : Int)).bind fun t6 =>
  (modO t6 (((List.length row1 : Nat) : Int) + (1 : Int))).bind fun at8 =>
  (atI draws2 (2 : Int)).bind fun t9 =>
  (modO t9 ((List.length items3 : Nat) : Int)).bind fun t10 =>
  (atI items3 t10).bind fun odd12 =>
  if (decide (way5 = (0 : Int))) = true then ((catO (cut row1 none (some at8)) (cut row1 (some (at8 + (1 : Int))) none)).bind fun t13 =>
  some t13)
  else if (decide (way5 = (1 : Int))) = true then ((catO (cut row1 none (some at8)) [odd12]).bind fun t14 =>
  (catO t14 (cut row1 (some at8) none)).bind fun t15 =>
  some t15)
  else if (decide (way5 < (4 : Int))) = true then ((catO (cut row1 none (some at8)) [odd12]).bind fun t16 =>
  (catO t16 (cut row1 (some (at8 + (1 : Int))) none)).bind fun t17 =>
  some t17)
  else (if (decide (way5 = (4 : Int))) = true then (some (List.reverse row1)) else ((catO (cut row1 none (some at8)) (cut row1 (some (max (0 : Int) (at8 - (1 : Int)))) none)).bind fun t18 => (some t18))).bind fun t19 =>
  some t19
def m__law_hidden (draws1 : (List Int)) (pace2 : Int) (last3 : Int) : Option (List (Int × Int)) :=
  (atI draws1 (0 : Int)).bind fun t6 =>
  (atI draws1 (1 : Int)).bind fun t7 =>
  (some [(((t6 % (12 : Int)) - (4 : Int)), ((t7 % (12 : Int)) - (4 : Int)))]).bind fun cells8 =>
  (rngO 0 last3).bind fun r9 =>
  (List.foldlM (fun (s10 : ((List (Int × Int)))) (x11 : Int) =>
  (atI draws1 ((2 : Int) + x11)).bind fun one13 =>
  (atI s10 (-(1 : Int))).bind fun t14 =>
  (modO one13 (((2 : Int) * pace2) + (1 : Int))).bind fun t15 =>
  (atI s10 (-(1 : Int))).bind fun t16 =>
  (modO (one13 / (8 : Int)) (((2 : Int) * pace2) + (1 : Int))).bind fun t17 =>
  (appO s10 (((t14.1 + t15) - pace2), ((t16.2 + t17) - pace2))).bind fun cells18 =>
  some (cells18)) ((cells8) : ((List (Int × Int)))) r9).bind fun (s10 : ((List (Int × Int)))) =>
  some s10
def m__law_calls (draws1 : (List Int)) (cells2 : (List (Int × Int))) (free3 : Bool) : Option (List (Int × Int × Int × Int)) :=
  (some ([] : List (Int × Int × Int × Int))).bind fun calls4 =>
  (atI draws1 (0 : Int)).bind fun t5 =>
  (rngO 0 ((1 : Int) + (t5 % (4 : Int)))).bind fun r6 =>
  (List.foldlM (fun (s7 : ((List (Int × Int × Int × Int)))) (x8 : Int) =>
  (atI draws1 ((1 : Int) + x8)).bind fun one10 =>
  (some (one10 % (3 : Int))).bind fun d11 =>
  (modO (one10 / (3 : Int)) ((List.length cells2 : Nat) : Int)).bind fun time13 =>
  (atI cells2 time13).bind fun t14 =>
  (modO (one10 / (21 : Int)) (((2 : Int) * d11) + (1 : Int))).bind fun t15 =>
  (atI cells2 time13).bind fun t16 =>
  (modO (one10 / (105 : Int)) (((2 : Int) * d11) + (1 : Int))).bind fun t17 =>
  (some (((t14.1 + t15) - d11), ((t16.2 + t17) - d11))).bind fun own18 =>
  (if (free3 && (decide ((0 : Int) < x8))) = true then ((atI draws1 ((5 : Int) + x8)).bind fun t23 =>
  (atI draws1 ((5 : Int) + x8)).bind fun t24 =>
  (some (((t23 % (15 : Int)) - (5 : Int)), (((t24 / (15 : Int)) % (15 : Int)) - (5 : Int)))).bind fun own25 =>
  some (own25))
  else (some (own18))).bind fun (j22 : ((Int × Int))) =>
  (appO s7 (time13, j22.1, j22.2, d11)).bind fun calls26 =>
  some (calls26)) ((calls4) : ((List (Int × Int × Int × Int)))) r6).bind fun (s7 : ((List (Int × Int × Int × Int)))) =>
  some s7
def m__law_side (calls1 : (List (Int × Int × Int × Int))) (pace2 : Int) (size3 : Int) (side4 : Int) : Option (List (Int × Int)) :=
  (repO ((0 : Int) - (1000000 : Int)) size3).bind fun low6 =>
  (repO (1000000 : Int) size3).bind fun high8 =>
  (List.foldlM (fun (s9 : ((List Int) × (List Int))) (x10 : (Int × Int × Int × Int)) =>
  (atI s9.1 x10.1).bind fun t11 =>
  (atI [x10.1, x10.2.1, x10.2.2.1, x10.2.2.2] side4).bind fun t12 =>
  (setO s9.1 x10.1 (max t11 (t12 - x10.2.2.2))).bind fun low13 =>
  (atI s9.2 x10.1).bind fun t14 =>
  (atI [x10.1, x10.2.1, x10.2.2.1, x10.2.2.2] side4).bind fun t15 =>
  (setO s9.2 x10.1 (min t14 (t15 + x10.2.2.2))).bind fun high16 =>
  some (low13, high16)) ((low6, high8) : ((List Int) × (List Int))) calls1).bind fun (s9 : ((List Int) × (List Int))) =>
  (rngO (1 : Int) size3).bind fun r17 =>
  (List.foldlM (fun (s18 : ((List Int) × (List Int))) (x19 : Int) =>
  (atI s18.1 x19).bind fun t20 =>
  (atI s18.1 (x19 - (1 : Int))).bind fun t21 =>
  (setO s18.1 x19 (max t20 (t21 - pace2))).bind fun low22 =>
  (atI s18.2 x19).bind fun t23 =>
  (atI s18.2 (x19 - (1 : Int))).bind fun t24 =>
  (setO s18.2 x19 (min t23 (t24 + pace2))).bind fun high25 =>
  some (low22, high25)) ((s9.1, s9.2) : ((List Int) × (List Int))) r17).bind fun (s18 : ((List Int) × (List Int))) =>
  (rngO (1 : Int) size3).bind fun r26 =>
  (List.foldlM (fun (s27 : ((List Int) × (List Int))) (x28 : Int) =>
  (some ((size3 - (1 : Int)) - x28)).bind fun at29 =>
  (atI s27.1 at29).bind fun t30 =>
  (atI s27.1 (at29 + (1 : Int))).bind fun t31 =>
  (setO s27.1 at29 (max t30 (t31 - pace2))).bind fun low32 =>
  (atI s27.2 at29).bind fun t33 =>
  (atI s27.2 (at29 + (1 : Int))).bind fun t34 =>
  (setO s27.2 at29 (min t33 (t34 + pace2))).bind fun high35 =>
  some (low32, high35)) ((s18.1, s18.2) : ((List Int) × (List Int))) r26).bind fun (s27 : ((List Int) × (List Int))) =>
  (rngO 0 size3).bind fun r36 =>
  (compM (fun (x37 : Int) => ((atI s27.1 x37).bind fun t38 => ((atI s27.2 x37).bind fun t39 => (some (some (t38, t39)))))) r36).bind fun l40 =>
  some l40
def m__law_quarrel (calls1 : (List (Int × Int × Int × Int))) (pace2 : Int) : Option Bool :=
  (rngO 0 ((List.length calls1 : Nat) : Int)).bind fun r3 =>
  (foldR (ρ := Bool) (β := Unit) (fun (s4 : Unit) (x5 : Int) =>
  (rngO 0 x5).bind fun r6 =>
  (foldR (ρ := Bool) (β := Unit) (fun (s7 : Unit) (x8 : Int) =>
  (atI calls1 x8).bind fun t9 =>
  (atI calls1 x5).bind fun t10 =>
  (atI calls1 x8).bind fun t11 =>
  (atI calls1 x5).bind fun t12 =>
  (mulO pace2 ((Int.natAbs (t11.1 - t12.1) : Nat) : Int)).bind fun t13 =>
  (some ((t9.2.2.2 + t10.2.2.2) + t13)).bind fun room14 =>
  (atI calls1 x8).bind fun t15 =>
  (atI calls1 x5).bind fun t16 =>
  (atI calls1 x8).bind fun t17 =>
  (atI calls1 x5).bind fun t18 =>
  if (decide (room14 < (max ((Int.natAbs (t15.2.1 - t16.2.1) : Nat) : Int) ((Int.natAbs (t17.2.2.1 - t18.2.2.1) : Nat) : Int)))) = true then (some (.ret true))
  else some (.nx ())) (() : Unit) r6).bind (Res.elim .ret fun (s7 : Unit) =>
  some (.nx ()))) (() : Unit) r3).bind (Res.elim id fun (s4 : Unit) =>
  some false)
def m__law_pairs (calls1 : (List (Int × Int × Int × Int))) (pace2 : Int) : Option (List (Int × Int)) :=
  (some ([] : List (Int × Int))).bind fun pairs3 =>
  (rngO 0 ((List.length calls1 : Nat) : Int)).bind fun r4 =>
  (List.foldlM (fun (s5 : ((List (Int × Int)))) (x6 : Int) =>
  (rngO (x6 + (1 : Int)) ((List.length calls1 : Nat) : Int)).bind fun r7 =>
  (List.foldlM (fun (s8 : ((List (Int × Int)))) (x9 : Int) =>
  (atI calls1 x6).bind fun t10 =>
  (atI calls1 x9).bind fun t11 =>
  (m__law_quarrel [t10, t11] pace2).bind fun t12 =>
  (if t12 = true then ((appO s8 (x6, x9)).bind fun pairs15 =>
  some (pairs15))
  else (some (s8))).bind fun (j14 : ((List (Int × Int)))) =>
  some (j14)) ((s5) : ((List (Int × Int)))) r7).bind fun (s8 : ((List (Int × Int)))) =>
  some (s8)) ((pairs3) : ((List (Int × Int)))) r4).bind fun (s5 : ((List (Int × Int)))) =>
  some s5
def m__law_near (one1 : (Int × Int)) (other2 : (Int × Int)) (most3 : Int) : Option Bool :=
  some ((decide (((Int.natAbs (one1.1 - other2.1) : Nat) : Int) ≤ most3)) && (decide (((Int.natAbs (one1.2 - other2.2) : Nat) : Int) ≤ most3)))
def m__law_heard (calls1 : (List (Int × Int × Int × Int))) (pace2 : Int) (last3 : Int) (walk4 : (List (Int × Int))) : Option Bool :=
  if (!(decide (((List.length walk4 : Nat) : Int) = (last3 + (1 : Int))))) = true then (some false)
  else (rngO 0 last3).bind fun r5 =>
  (compM (fun (x6 : Int) => ((atI walk4 x6).bind fun t7 => ((atI walk4 (x6 + (1 : Int))).bind fun t8 => ((m__law_near t7 t8 pace2).bind fun t9 => (if (!t9) = true then (some x6).bind (fun y => some (some y)) else some none))))) r5).bind fun l10 =>
  if (decide ((0 : Int) < ((List.length l10 : Nat) : Int))) = true then (some false)
  else (compM (fun (x11 : (Int × Int × Int × Int)) => ((atI walk4 x11.1).bind fun t12 => ((m__law_near t12 (x11.2.1, x11.2.2.1) x11.2.2.2).bind fun t13 => (some (some t13))))) calls1).bind fun l14 =>
  some (List.all l14 id)
def m_law (script1 : (List Int)) : Option Bool :=
  (rngO 0 (3 : Int)).bind fun r2 =>
  (foldR (ρ := Bool) (β := Unit) (fun (s3 : Unit) (x4 : Int) =>
  (m__law_cell script1 x4).bind fun t5 =>
  (m__law_draws t5 (50 : Int)).bind fun draws7 =>
  (atI draws7 (0 : Int)).bind fun t8 =>
  (some (t8 % (4 : Int))).bind fun pace9 =>
  (atI draws7 (1 : Int)).bind fun t10 =>
  (some (t10 % (7 : Int))).bind fun last11 =>
  (m__law_hidden (cut draws7 (some (2 : Int)) (some (10 : Int))) pace9 last11).bind fun cells13 =>
  (orO (some (decide (x4 = (1 : Int)))) ((andO (some (decide (x4 = (2 : Int)))) ((atI draws7 (20 : Int)).bind fun t14 => (some (decide ((t14 % (2 : Int)) = (0 : Int)))))).bind fun t15 => (some t15))).bind fun t16 =>
  (m__law_calls (cut draws7 (some (10 : Int)) (some (20 : Int))) cells13 t16).bind fun calls18 =>
  (if (decide (x4 = (1 : Int))) = true then ((atI calls18 (0 : Int)).bind fun one25 =>
  (catO (cut calls18 none (some (3 : Int))) [(one25.1, ((one25.2.1 + one25.2.2.2) + (3 : Int)), one25.2.2.1, (2 : Int))]).bind fun calls27 =>
  some (calls27))
  else (some (calls18))).bind fun (j23 : ((List (Int × Int × Int × Int)))) =>
  (m__law_side j23 pace9 (last11 + (2 : Int)) (1 : Int)).bind fun rows29 =>
  (m__law_side j23 pace9 (last11 + (2 : Int)) (2 : Int)).bind fun columns31 =>
  (m__law_pairs j23 pace9).bind fun pairs33 =>
  (catO rows29 columns31).bind fun t34 =>
  (some (List.all (List.map (fun (x35 : (Int × Int)) => (decide (x35.1 ≤ x35.2))) t34) id)).bind fun heard36 =>
  if ((!(decide (heard36 = (decide (((List.length pairs33 : Nat) : Int) = (0 : Int)))))) || (((decide (x4 = (0 : Int))) && (!heard36)) || ((decide (x4 = (1 : Int))) && heard36))) = true then (some (.ret false))
  else (m_told_call_quarrel j23 pace9).bind fun t37 =>
  (if heard36 = true then (some none) else ((atI pairs33 (0 : Int)).bind fun t38 => (some (some t38)))).bind fun t39 =>
  (m__law_is ((eO (eP2 eI eI)) t37) ((eO (eP2 eI eI)) t39)).bind fun t40 =>
  if (!t40) = true then (some (.ret false))
  else (rngO 0 (last11 + (2 : Int))).bind fun r41 =>
  (foldR (ρ := Bool) (β := Unit) (fun (s42 : Unit) (x43 : Int) =>
  (m_whereabouts j23 pace9 x43).bind fun t44 =>
  (if heard36 = true then ((atI rows29 x43).bind fun t45 => ((atI columns31 x43).bind fun t46 => (some (some (t45.1, t45.2, t46.1, t46.2))))) else (some none)).bind fun t47 =>
  (m__law_is ((eO (eP4 eI eI eI eI)) t44) ((eO (eP4 eI eI eI eI)) t47)).bind fun t48 =>
  if (!t48) = true then (some (.ret false))
  else some (.nx ())) (() : Unit) r41).bind (Res.elim .ret fun (s42 : Unit) =>
  (rngO 0 (last11 + (1 : Int))).bind fun r49 =>
  (compM (fun (x50 : Int) => ((atI rows29 x50).bind fun t51 => ((atI columns31 x50).bind fun t52 => (some (some (t51.1, t52.1)))))) r49).bind fun lows54 =>
  (rngO 0 (last11 + (1 : Int))).bind fun r55 =>
  (compM (fun (x56 : Int) => ((atI rows29 x56).bind fun t57 => ((atI columns31 x56).bind fun t58 => (some (some (t57.2, t58.2)))))) r55).bind fun highs60 =>
  (m_told_walk j23 pace9 last11).bind fun t61 =>
  (m__law_is ((eO (eT (eP2 eI eI))) t61) ((eO (eT (eP2 eI eI))) (if heard36 = true then (some lows54) else none))).bind fun t62 =>
  if (!t62) = true then (some (.ret false))
  else (atI lows54 (0 : Int)).bind fun t67 =>
  (atI highs60 (-(1 : Int))).bind fun t68 =>
  (atI lows54 (-(1 : Int))).bind fun t69 =>
  (atI lows54 (-(1 : Int))).bind fun t70 =>
  (some [((100000000000000000000 : Int), (0 : Int)), ((0 : Int), ((0 : Int) - (100000000000000000000 : Int))), t67, t68, ((t69.1 + (1 : Int)), t70.2)]).bind fun odd71 =>
  (atI cells13 (0 : Int)).bind fun t75 =>
  (atI cells13 (0 : Int)).bind fun t76 =>
  (atI cells13 (-(1 : Int))).bind fun t77 =>
  (catO odd71 [(t75.1, ((t76.2 - pace9) - (1 : Int))), t77]).bind fun odd79 =>
  (some [lows54, highs60, cells13]).bind fun asked80 =>
  (rngO 0 (6 : Int)).bind fun r81 =>
  (List.foldlM (fun (s82 : ((List (List (Int × Int))))) (x83 : Int) =>
  (atI draws7 ((21 : Int) + x83)).bind fun t84 =>
  (atI s82 (t84 % (3 : Int))).bind fun base86 =>
  (m__law_bent_row base86 (cut draws7 (some ((27 : Int) + ((3 : Int) * x83))) (some ((30 : Int) + ((3 : Int) * x83)))) odd79).bind fun t87 =>
  (appO s82 t87).bind fun asked88 =>
  some (asked88)) ((asked80) : ((List (List (Int × Int))))) r81).bind fun (s82 : ((List (List (Int × Int))))) =>
  (foldR (ρ := Bool) (β := Unit) (fun (s89 : Unit) (x90 : (List (Int × Int))) =>
  (m_is_heard_walk j23 pace9 last11 x90).bind fun t91 =>
  (m__law_heard j23 pace9 last11 x90).bind fun t92 =>
  (m__law_is (eB t91) (eB t92)).bind fun t93 =>
  if (!t93) = true then (some (.ret false))
  else some (.nx ())) (() : Unit) s82).bind (Res.elim .ret fun (s89 : Unit) =>
  some (.nx ())))) (() : Unit) r2).bind (Res.elim id fun (s3 : Unit) =>
  some true)
end K71

set_option autoImplicit false
set_option Elab.async false
set_option linter.all false
set_option maxRecDepth 100000
set_option maxHeartbeats 4000000
namespace K71
open SM PySem PySem.Spec L2
theorem cell_ok (script : List Int) {k : Int} (h : 0 ≤ k) : ∃ c, m__law_cell script k = some c := by
  unfold m__law_cell
  split
  · rename_i hc
    obtain ⟨x, h1, _⟩ := atI_lt (xs := script) h (of_decide_eq_true hc)
    exact ⟨x, by rw [h1]; rfl⟩
  · exact ⟨_, rfl⟩
theorem draws_ok (cell : Int) {n : Int} (h0 : 0 ≤ n) (h1 : n ≤ 1000) : ∃ ds, m__law_draws cell n = some ds ∧ (ds.length : Int) = n ∧ ∀ d ∈ ds, 0 ≤ d ∧ d < 5040 := by
  obtain ⟨k, rfl⟩ := Int.eq_ofNat_of_zero_le h0
  unfold m__law_draws
  refine ex_bind rfl (ex_bind rfl (ex_bind rfl (ex_bind rfl (ex_bind (rngO_eq (by omega)) ?_))))
  refine ex_fold_rng (fun j t => t.2.length = j ∧ ∀ d ∈ t.2, 0 ≤ d ∧ d < 5040) ⟨rfl, fun d hd => by cases hd⟩ ?_ fun t ⟨hl, hr⟩ => ⟨_, rfl, by rw [hl], hr⟩
  · rintro j t hj ⟨hl, hr⟩
    have app : ∀ x : Int, 0 ≤ x → x < 5040 → (t.2 ++ [x]).length = j + 1 ∧ ∀ d ∈ t.2 ++ [x], 0 ≤ d ∧ d < 5040 := fun x a b => ⟨by rw [List.length_append, hl]; rfl, fun d hd => by
      rcases List.mem_append.mp hd with h | h
      · exact hr d h
      · rw [List.mem_singleton.mp h]; exact ⟨a, b⟩⟩
    have cond : ∀ (c : Bool) (a b : Option (Int × List Int)) (g : Int × List Int → Option (Int × List Int)), (∀ t', g t' = some t') → (∃ t', a = some t' ∧ t'.2.length = j + 1 ∧ ∀ d ∈ t'.2, 0 ≤ d ∧ d < 5040) → (∃ t', b = some t' ∧ t'.2.length = j + 1 ∧ ∀ d ∈ t'.2, 0 ≤ d ∧ d < 5040) → ∃ t', (if c = true then a else b).bind g = some t' ∧ t'.2.length = j + 1 ∧ ∀ d ∈ t'.2, 0 ≤ d ∧ d < 5040 := by
      intro c a b g hg ha hb
      cases c with
      | true => obtain ⟨t', e, h⟩ := ha; exact ⟨t', by rw [if_pos rfl, e]; exact hg t', h⟩
      | false => obtain ⟨t', e, h⟩ := hb; exact ⟨t', by rw [if_neg Bool.false_ne_true, e]; exact hg t', h⟩
    refine cond _ _ _ _ (fun t' => rfl) ?_ ?_
    · refine ex_bind (appO_eq (by omega)) (ex_bind rfl ⟨_, rfl, app _ (Int.emod_nonneg _ (by decide)) (Int.emod_lt_of_pos _ (by decide))⟩)
    · refine ex_bind rfl (ex_bind (mulO_eq (.inl ?_)) (ex_bind rfl (ex_bind (appO_eq (by omega)) ⟨_, rfl, app _ (Int.emod_nonneg _ (by decide)) (Int.emod_lt_of_pos _ (by decide))⟩)))
      have a := Int.emod_nonneg ((((cell.natAbs : Nat) : Int) * 48271 + (((j : Nat) : Int) + 1) * 69621) + 11) (b := 2147483647) (by decide)
      have b := Int.emod_lt_of_pos ((((cell.natAbs : Nat) : Int) * 48271 + (((j : Nat) : Int) + 1) * 69621) + 11) (b := 2147483647) (by decide)
      exact ⟨Int.lt_of_lt_of_le (by decide) a, Int.lt_trans b (by decide)⟩
/-- a row of draws -/
structure Dr (ds : List Int) (n : Int) : Prop where
  len : (ds.length : Int) = n
  rng : ∀ d ∈ ds, 0 ≤ d ∧ d < 5040
theorem Dr.at {ds : List Int} {n i : Int} (h : Dr ds n) (h0 : 0 ≤ i) (h1 : i < n) : ∃ d, atI ds i = some d ∧ 0 ≤ d ∧ d < 5040 := by
  obtain ⟨x, e, m, _⟩ := atI_lt (xs := ds) h0 (by rw [h.len]; exact h1)
  exact ⟨x, e, h.rng x m⟩
theorem Dr.cut {ds : List Int} {n i j : Int} (h : Dr ds n) (h0 : 0 ≤ i) (h1 : i ≤ j) (h2 : j ≤ n) : Dr (SM.cut ds (some i) (some j)) (j - i) := by
  have hl := h.len
  rw [cut_mid h0 (by omega)]
  refine ⟨?_, fun d hd => h.rng d (List.mem_of_mem_drop (List.mem_of_mem_take hd))⟩
  rw [List.length_take, List.length_drop]
  omega
theorem draws_dr (cell : Int) {n : Int} (h0 : 0 ≤ n) (h1 : n ≤ 1000) : ∃ ds, m__law_draws cell n = some ds ∧ Dr ds n := by
  obtain ⟨ds, e, a, b⟩ := draws_ok cell h0 h1
  exact ⟨ds, e, a, b⟩
/-! ### the mathematics -/
def Pc (p : Int) : Prop := p = 0 ∨ p = 1 ∨ p = 2 ∨ p = 3
def qr (p : Int) (a b : Int × Int × Int × Int) : Bool :=
  decide (a.2.2.2 + b.2.2.2 + p * ((a.1 - b.1).natAbs : Int) < ((a.2.1 - b.2.1).natAbs : Int)) || decide (a.2.2.2 + b.2.2.2 + p * ((a.1 - b.1).natAbs : Int) < ((a.2.2.1 - b.2.2.1).natAbs : Int))
theorem Pc.rng {p : Int} (h : Pc p) : 0 ≤ p ∧ p < 4 := by rcases h with rfl | rfl | rfl | rfl <;> omega
theorem do_quarrel {p : Int} (hp : Pc p) (a b : Int × Int × Int × Int) : m_do_quarrel a b p = some (qr p a b) := by
  unfold m_do_quarrel
  have := hp.rng
  exact bnd (mulO_eq (.inl (by constructor <;> omega))) (bnd rfl rfl)
/-- what the i-th and the j-th call say -/
def qi (p : Int) (cs : List (Int × Int × Int × Int)) (i j : Int) : Bool := match atI cs i, atI cs j with | some a, some b => qr p a b | _, _ => false
def pairsOf (p : Int) (cs : List (Int × Int × Int × Int)) : List (Int × Int) := (rng 0 cs.length).flatMap fun i => (rng (i + 1) cs.length).filterMap fun j => if qi p cs i j = true then some (i, j) else none
theorem find_asR {ρ : Type} {p : Option ρ} : (some (asR p)).bind (Res.elim .ret fun (_ : Unit) => some (Res.nx ())) = some (asR p) := by cases p <;> rfl
theorem told_quarrel {p : Int} (hp : Pc p) {cs : List (Int × Int × Int × Int)} (hl : cs.length ≤ 1000) : m_told_call_quarrel cs p = some (pairsOf p cs).head? := by
  unfold m_told_call_quarrel pairsOf
  refine bnd (rngO_eq (by omega)) (bnd (foldR_find (h := fun i => ((rng (i + 1) cs.length).filterMap fun j => if qi p cs i j = true then some (i, j) else none).head?.map some) fun i hi => ?_) ?_)
  · rw [mem_rng] at hi
    refine bnd (rngO_eq (by omega)) ?_
    rw [foldR_find (h := fun j => if qi p cs i j = true then some (some (i, j)) else none)]
    · rw [find_asR, List.head?_filterMap]
      congr 2
      induction rng (i + 1) cs.length with
      | nil => rfl
      | cons j r ih =>
        rw [List.findSome?_cons, List.findSome?_cons]
        by_cases hb : qi p cs i j = true
        · rw [if_pos hb, if_pos hb]; rfl
        · rw [if_neg hb, if_neg hb]; exact ih
    · intro j hj
      rw [mem_rng] at hj
      obtain ⟨a, ea, _⟩ := atI_lt (xs := cs) hi.1 hi.2
      obtain ⟨b, eb, _⟩ := atI_lt (xs := cs) (i := j) (by omega) hj.2
      refine bnd ea (bnd eb (bnd (do_quarrel hp a b) ?_))
      have : qi p cs i j = qr p a b := by unfold qi; rw [ea, eb]
      rw [this]
      split <;> rfl
  · rw [List.head?_flatMap]
    have key : ∀ xs : List Int, (some (asR (xs.findSome? fun i => ((rng (i + 1) cs.length).filterMap fun j => if qi p cs i j = true then some (i, j) else none).head?.map some))).bind (Res.elim id fun (_ : Unit) => some none) = some (xs.findSome? fun i => ((rng (i + 1) cs.length).filterMap fun j => if qi p cs i j = true then some (i, j) else none).head?) := by
      intro xs
      induction xs with
      | nil => rfl
      | cons a r ih =>
        rw [List.findSome?_cons, List.findSome?_cons]
        cases ((rng (a + 1) cs.length).filterMap fun j => if qi p cs a j = true then some (a, j) else none).head? with
        | none => exact ih
        | some x => rfl
    exact key _
theorem law_quarrel2 {p : Int} (hp : Pc p) (a b : Int × Int × Int × Int) : m__law_quarrel [a, b] p = some (qr p a b) := by
  have hq := hp.rng
  unfold m__law_quarrel
  have e2 : rng 0 (([a, b].length : Nat) : Int) = [0, 1] := rfl
  refine bnd (rngO_eq (by show -8388608 ≤ (0 : Int) ∧ (0 : Int) ≤ 8388608 ∧ -8388608 ≤ (2 : Int) ∧ (2 : Int) ≤ 8388608; decide)) ?_
  rw [e2]
  have f0 : rngO 0 0 = some [] := by decide
  have f1 : rngO 0 1 = some [0] := by decide
  have g0 : atI [a, b] 0 = some a := rfl
  have g1 : atI [a, b] 1 = some b := rfl
  have hm : mulO p ((a.1 - b.1).natAbs : Int) = some (p * ((a.1 - b.1).natAbs : Int)) := mulO_eq (.inl (by constructor <;> omega))
  simp only [foldR, f0, f1, g0, g1, hm, Option.bind_some, Res.elim]
  have hc : decide (a.2.2.2 + b.2.2.2 + p * ((a.1 - b.1).natAbs : Int) < max ((a.2.1 - b.2.1).natAbs : Int) ((a.2.2.1 - b.2.2.1).natAbs : Int)) = qr p a b := by
    unfold qr
    rw [← Bool.decide_or, decide_eq_decide]
    omega
  rw [hc]
  cases qr p a b <;> rfl
theorem law_pairs {p : Int} (hp : Pc p) {cs : List (Int × Int × Int × Int)} (hl : cs.length ≤ 1000) : m__law_pairs cs p = some (pairsOf p cs) := by
  unfold m__law_pairs pairsOf
  have bound : ∀ xs : List Int, (∀ i ∈ xs, 0 ≤ i) → (xs.flatMap fun i => (rng (i + 1) cs.length).filterMap fun j => if qi p cs i j = true then some (i, j) else none).length ≤ xs.length * 1000 := by
    intro xs
    induction xs with
    | nil => intro _; simp
    | cons x xs ih =>
      intro h
      have h1 := ih fun i hi => h i (List.mem_cons_of_mem _ hi)
      have h2 := h x List.mem_cons_self
      rw [List.flatMap_cons, List.length_append, List.length_cons, Nat.succ_mul]
      have := List.length_filterMap_le (fun j => if qi p cs x j = true then some (x, j) else none) (rng (x + 1) cs.length)
      rw [rng_len] at this
      omega
  refine bnd rfl (bnd (rngO_eq (by omega)) (fold_bnd (fun q t => t = q.flatMap fun i => (rng (i + 1) cs.length).filterMap fun j => if qi p cs i j = true then some (i, j) else none) rfl ?_ fun t ht => by rw [ht]))
  rintro q i r t e rfl
  have hi : i ∈ rng 0 (cs.length : Int) := by rw [e]; simp
  have hq : ∀ a ∈ q, 0 ≤ a := fun a ha => (mem_rng.mp (show a ∈ rng 0 (cs.length : Int) by rw [e]; simp [ha])).1
  have hql : q.length ≤ 1000 := by
    have := congrArg List.length e
    rw [rng_len, List.length_append] at this
    omega
  have hb := bound q hq
  rw [mem_rng] at hi
  refine ex_bind (rngO_eq (by omega)) (ex_fold (fun q' t' => t' = (q.flatMap fun i => (rng (i + 1) cs.length).filterMap fun j => if qi p cs i j = true then some (i, j) else none) ++ q'.filterMap fun j => if qi p cs i j = true then some (i, j) else none) (by simp) ?_ fun t' ht => ⟨t', rfl, ?_⟩)
  · rintro q' j r' t' e' rfl
    have hj : j ∈ rng (i + 1) (cs.length : Int) := by rw [e']; simp
    have hql' : q'.length ≤ 1000 := by
      have := congrArg List.length e'
      rw [rng_len, List.length_append] at this
      omega
    rw [mem_rng] at hj
    obtain ⟨a, ea, _⟩ := atI_lt (xs := cs) hi.1 hi.2
    obtain ⟨b, eb, _⟩ := atI_lt (xs := cs) (i := j) (by omega) hj.2
    have hqi : qi p cs i j = qr p a b := by unfold qi; rw [ea, eb]
    refine ex_bind ea (ex_bind eb (ex_bind (law_quarrel2 hp a b) ?_))
    rw [List.filterMap_append, ← List.append_assoc]
    by_cases h : qr p a b = true
    · refine ex_bind (itt h (bnd (appO_eq ?_) rfl)) ⟨_, rfl, ?_⟩
      · have := List.length_filterMap_le (fun j => if qi p cs i j = true then some (i, j) else none) q'
        rw [List.length_append]
        have : q.length * 1000 ≤ 1000 * 1000 := Nat.mul_le_mul_right _ hql
        omega
      · congr 1
        simp [hqi, h]
    · refine ex_bind (itf (Bool.eq_false_iff.mpr h) rfl) ⟨_, rfl, ?_⟩
      simp [hqi, h]
  · rw [ht, List.flatMap_append, List.flatMap_cons, List.flatMap_nil, List.append_nil]
theorem pairs_nil {p : Int} {cs : List (Int × Int × Int × Int)} : pairsOf p cs = [] ↔ ∀ i j : Nat, i < j → ∀ a b, cs[i]? = some a → cs[j]? = some b → qr p a b = false := by
  unfold pairsOf
  rw [List.flatMap_eq_nil_iff]
  constructor
  · intro h i j hij a b ha hb
    have hj : j < cs.length := (List.getElem?_eq_some_iff.mp hb).1
    have h1 := h (i : Int) (mem_rng.mpr ⟨by omega, by omega⟩)
    rw [List.filterMap_eq_nil_iff] at h1
    have h2 := h1 (j : Int) (mem_rng.mpr ⟨by omega, by omega⟩)
    have e : qi p cs i j = qr p a b := by unfold qi; rw [atI_n, atI_n, ha, hb]
    rw [e] at h2
    cases hq : qr p a b with
    | false => rfl
    | true => rw [hq, if_pos rfl] at h2; cases h2
  · intro h i hi
    rw [List.filterMap_eq_nil_iff]
    intro j hj
    rw [mem_rng] at hi hj
    obtain ⟨a, ea, _, ga⟩ := atI_lt (xs := cs) hi.1 hi.2
    obtain ⟨b, eb, _, gb⟩ := atI_lt (xs := cs) (i := j) (by omega) hj.2
    have e : qi p cs i j = qr p a b := by unfold qi; rw [ea, eb]
    rw [e, h i.toNat j.toNat (by omega) a b ga gb, if_neg Bool.false_ne_true]
/-- a list's bounds, by what is above and below them -/
structure Bd (l h : Int) (A B : Int → Prop) : Prop where
  lo : ∀ x, l ≤ x ↔ A x
  hi : ∀ x, x ≤ h ↔ B x
theorem Bd.uniq {l h l' h' : Int} {A B : Int → Prop} (a : Bd l h A B) (b : Bd l' h' A B) : l = l' ∧ h = h' := by
  constructor
  · have h1 := (b.lo l).mpr ((a.lo l).mp (Int.le_refl l))
    have h2 := (a.lo l').mpr ((b.lo l').mp (Int.le_refl l'))
    omega
  · have h1 := (b.hi h).mpr ((a.hi h).mp (Int.le_refl h))
    have h2 := (a.hi h').mpr ((b.hi h').mp (Int.le_refl h'))
    omega
theorem Bd.of {l h : Int} {A B A' B' : Int → Prop} (a : Bd l h A B) (h1 : ∀ x, A x ↔ A' x) (h2 : ∀ x, B x ↔ B' x) : Bd l h A' B' := ⟨fun x => (a.lo x).trans (h1 x), fun x => (a.hi x).trans (h2 x)⟩
theorem setO_eq {α : Type} {xs : List α} {k : Int} {v : α} (h0 : 0 ≤ k) (h1 : k < xs.length) : setO xs k v = some (xs.set k.toNat v) := by
  unfold setO ixN
  rw [if_pos h0, if_pos h1]; rfl
theorem max_ex {xs : List Int} (h : xs ≠ []) : ∃ m, xs.max? = some m ∧ ∀ x, m ≤ x ↔ ∀ y ∈ xs, y ≤ x := by
  cases hm : xs.max? with
  | none => exact absurd (List.max?_eq_none_iff.mp hm) h
  | some m =>
    obtain ⟨h1, h2⟩ := List.max?_eq_some_iff.mp hm
    exact ⟨m, rfl, fun x => ⟨fun h y hy => Int.le_trans (h2 y hy) h, fun h => h m h1⟩⟩
theorem min_ex {xs : List Int} (h : xs ≠ []) : ∃ m, xs.min? = some m ∧ ∀ x, x ≤ m ↔ ∀ y ∈ xs, x ≤ y := by
  cases hm : xs.min? with
  | none => exact absurd (List.min?_eq_none_iff.mp hm) h
  | some m =>
    obtain ⟨h1, h2⟩ := List.min?_eq_some_iff.mp hm
    exact ⟨m, rfl, fun x => ⟨fun h y hy => Int.le_trans h (h2 y hy), fun h => h m h1⟩⟩
/-- the bounds of a side at the time t -/
def LoA (p : Int) (v : Int × Int × Int × Int → Int) (cs : List (Int × Int × Int × Int)) (t : Int) (x : Int) : Prop := ∀ c ∈ cs, v c - (c.2.2.2 + p * ((c.1 - t).natAbs : Int)) ≤ x
def HiB (p : Int) (v : Int × Int × Int × Int → Int) (cs : List (Int × Int × Int × Int)) (t : Int) (x : Int) : Prop := ∀ c ∈ cs, x ≤ v c + (c.2.2.2 + p * ((c.1 - t).natAbs : Int))
theorem side_bounds {p : Int} (hp : Pc p) {cs : List (Int × Int × Int × Int)} (hne : cs ≠ []) (t side : Int) (v : Int × Int × Int × Int → Int) (hv : ∀ x : Int × Int × Int × Int, atI [x.1, x.2.1, x.2.2.1, x.2.2.2] side = some (v x)) :
    ∃ l h, m_side_bounds cs p t side = some (l, h) ∧ Bd l h (LoA p v cs t) (HiB p v cs t) := by
  have hq := hp.rng
  unfold m_side_bounds
  have e : compM (fun (x5 : (Int × Int × Int × Int)) => ((atI [x5.1, x5.2.1, x5.2.2.1, x5.2.2.2] side).bind fun t6 => ((mulO p ((Int.natAbs (x5.1 - t) : Nat) : Int)).bind fun t7 => (some (some (t6, (x5.2.2.2 + t7))))))) cs = some (cs.map fun c => (v c, c.2.2.2 + p * ((c.1 - t).natAbs : Int))) :=
    compM_get' fun c _ => bnd (hv c) (bnd (mulO_eq (.inl (by constructor <;> omega))) rfl)
  obtain ⟨l, el, hl⟩ := max_ex (xs := List.map (fun (x10 : (Int × Int)) => (x10.1 - x10.2)) (cs.map fun c => (v c, c.2.2.2 + p * ((c.1 - t).natAbs : Int)))) (by simpa using hne)
  obtain ⟨h, eh, hh⟩ := min_ex (xs := List.map (fun (x10 : (Int × Int)) => (x10.1 + x10.2)) (cs.map fun c => (v c, c.2.2.2 + p * ((c.1 - t).natAbs : Int)))) (by simpa using hne)
  refine ⟨l, h, bnd e (bnd el (bnd eh rfl)), fun x => ?_, fun x => ?_⟩
  · rw [hl, List.map_map]
    exact ⟨fun h c hc => h _ (List.mem_map.mpr ⟨c, hc, rfl⟩), fun h y hy => by obtain ⟨c, hc, rfl⟩ := List.mem_map.mp hy; exact h c hc⟩
  · rw [hh, List.map_map]
    exact ⟨fun h c hc => h _ (List.mem_map.mpr ⟨c, hc, rfl⟩), fun h y hy => by obtain ⟨c, hc, rfl⟩ := List.mem_map.mp hy; exact h c hc⟩
/-- two lists of bounds, by what is above and below each -/
def Tb (n : Nat) (lo hi : List Int) (A B : Nat → Int → Prop) : Prop := lo.length = n ∧ hi.length = n ∧ ∀ t < n, ∃ l h, lo[t]? = some l ∧ hi[t]? = some h ∧ Bd l h (A t) (B t)
theorem Tb.get {n : Nat} {lo hi : List Int} {A B : Nat → Int → Prop} (T : Tb n lo hi A B) {t : Nat} (ht : t < n) : ∃ l h, atI lo (t : Int) = some l ∧ atI hi (t : Int) = some h ∧ Bd l h (A t) (B t) := by
  obtain ⟨_, _, h⟩ := T
  obtain ⟨l, h', e1, e2, b⟩ := h t ht
  exact ⟨l, h', by rw [atI_n, e1], by rw [atI_n, e2], b⟩
theorem Tb.set {n : Nat} {lo hi : List Int} {A B A' B' : Nat → Int → Prop} (T : Tb n lo hi A B) {k : Nat} {l h : Int} (hk : k < n) (b : Bd l h (A' k) (B' k)) (hA : ∀ t, t ≠ k → t < n → ∀ x, (A t x ↔ A' t x) ∧ (B t x ↔ B' t x)) : Tb n (lo.set k l) (hi.set k h) A' B' := by
  obtain ⟨h1, h2, h3⟩ := T
  refine ⟨by rw [List.length_set, h1], by rw [List.length_set, h2], fun t ht => ?_⟩
  by_cases e : t = k
  · subst e
    exact ⟨l, h, by rw [List.getElem?_set_self (by omega)], by rw [List.getElem?_set_self (by omega)], b⟩
  · obtain ⟨l', h', e1, e2, b'⟩ := h3 t ht
    exact ⟨l', h', by rw [List.getElem?_set_ne (Ne.symm e), e1], by rw [List.getElem?_set_ne (Ne.symm e), e2], b'.of (fun x => (hA t e ht x).1) fun x => (hA t e ht x).2⟩
theorem Tb.of {n : Nat} {lo hi : List Int} {A B A' B' : Nat → Int → Prop} (T : Tb n lo hi A B) (hA : ∀ t, t < n → ∀ x, (A t x ↔ A' t x) ∧ (B t x ↔ B' t x)) : Tb n lo hi A' B' := by
  obtain ⟨h1, h2, h3⟩ := T
  refine ⟨h1, h2, fun t ht => ?_⟩
  obtain ⟨l', h', e1, e2, b'⟩ := h3 t ht
  exact ⟨l', h', e1, e2, b'.of (fun x => (hA t ht x).1) fun x => (hA t ht x).2⟩
def A1 (v : Int × Int × Int × Int → Int) (cs : List (Int × Int × Int × Int)) (u : Nat) (x : Int) : Prop := 0 - 1000000 ≤ x ∧ ∀ c ∈ cs, c.1 = (u : Int) → v c - c.2.2.2 ≤ x
def B1 (v : Int × Int × Int × Int → Int) (cs : List (Int × Int × Int × Int)) (u : Nat) (x : Int) : Prop := x ≤ 1000000 ∧ ∀ c ∈ cs, c.1 = (u : Int) → x ≤ v c + c.2.2.2
theorem law_side {p : Int} (hp : Pc p) {cs : List (Int × Int × Int × Int)} {n : Nat} (hn : 1 ≤ n) (hn2 : n ≤ 1000) (ht : ∀ c ∈ cs, 0 ≤ c.1 ∧ c.1 < n) (side : Int) (v : Int × Int × Int × Int → Int) (hv : ∀ x : Int × Int × Int × Int, atI [x.1, x.2.1, x.2.2.1, x.2.2.2] side = some (v x)) :
    ∃ rows, m__law_side cs p (n : Int) side = some rows ∧ rows.length = n ∧ ∀ t < n, ∃ l h, rows[t]? = some (l, h) ∧
      Bd l h (fun x => ∀ s, t ≤ s → s < n → ∀ u, u ≤ s → A1 v cs u (x + p * ((s : Int) - t) + p * ((s : Int) - u))) (fun x => ∀ s, t ≤ s → s < n → ∀ u, u ≤ s → B1 v cs u (x - p * ((s : Int) - t) - p * ((s : Int) - u))) := by
  unfold m__law_side
  refine ex_bind (x := List.replicate n (0 - 1000000)) ?_ (ex_bind (x := List.replicate n 1000000) ?_ (ex_fold (fun q t => Tb n t.1 t.2 (A1 v q) (B1 v q)) ?_ ?_ ?_))
  · unfold repO; rw [if_pos (by omega), Int.toNat_natCast]
  · unfold repO; rw [if_pos (by omega), Int.toNat_natCast]
  · refine ⟨by simp, by simp, fun t ht => ⟨0 - 1000000, 1000000, by simp [ht], by simp [ht], fun x => ?_, fun x => ?_⟩⟩
    · simp [A1]
    · simp [B1]
  · rintro q c r ⟨lo, hi⟩ e T
    have hcm : c ∈ cs := by rw [e]; simp
    obtain ⟨c0, c1⟩ := ht c hcm
    obtain ⟨k, hk⟩ := Int.eq_ofNat_of_zero_le c0
    have hkn : k < n := by omega
    obtain ⟨l, h, e1, e2, b⟩ := T.get hkn
    obtain ⟨h1, h2, _⟩ := id T
    have h1 : lo.length = n := h1
    have h2 : hi.length = n := h2
    rw [← hk] at e1 e2
    refine ex_bind e1 (ex_bind (hv c) (ex_bind (setO_eq c0 (by omega)) (ex_bind e2 (ex_bind (hv c) (ex_bind (setO_eq c0 (by omega)) ⟨_, rfl, ?_⟩)))))
    rw [show c.1.toNat = k by omega]
    refine T.set hkn ⟨fun x => ?_, fun x => ?_⟩ fun t e ht x => ⟨?_, ?_⟩
    · rw [Int.max_le, b.lo]
      unfold A1
      constructor
      · rintro ⟨⟨a1, a2⟩, a3⟩
        refine ⟨a1, fun d hd he => ?_⟩
        rcases List.mem_append.mp hd with hd | hd
        · exact a2 d hd he
        · rw [List.mem_singleton.mp hd]; exact a3
      · rintro ⟨a1, a2⟩
        exact ⟨⟨a1, fun d hd he => a2 d (List.mem_append_left _ hd) he⟩, a2 c (by simp) hk⟩
    · rw [Int.le_min, b.hi]
      unfold B1
      constructor
      · rintro ⟨⟨a1, a2⟩, a3⟩
        refine ⟨a1, fun d hd he => ?_⟩
        rcases List.mem_append.mp hd with hd | hd
        · exact a2 d hd he
        · rw [List.mem_singleton.mp hd]; exact a3
      · rintro ⟨a1, a2⟩
        exact ⟨⟨a1, fun d hd he => a2 d (List.mem_append_left _ hd) he⟩, a2 c (by simp) hk⟩
    · unfold A1
      refine ⟨fun ⟨a1, a2⟩ => ⟨a1, fun d hd he => ?_⟩, fun ⟨a1, a2⟩ => ⟨a1, fun d hd he => a2 d (List.mem_append_left _ hd) he⟩⟩
      rcases List.mem_append.mp hd with hd | hd
      · exact a2 d hd he
      · rw [List.mem_singleton.mp hd, hk] at he; omega
    · unfold B1
      refine ⟨fun ⟨a1, a2⟩ => ⟨a1, fun d hd he => ?_⟩, fun ⟨a1, a2⟩ => ⟨a1, fun d hd he => a2 d (List.mem_append_left _ hd) he⟩⟩
      rcases List.mem_append.mp hd with hd | hd
      · exact a2 d hd he
      · rw [List.mem_singleton.mp hd, hk] at he; omega
  rintro ⟨lo1, hi1⟩ T1
  -- forward
  refine ex_bind (rngO_eq (by omega)) (ex_fold_rngL (lo := 1) (n := n - 1) (by omega) (fun k t => Tb n t.1 t.2 (fun t x => if t ≤ k then ∀ u, u ≤ t → A1 v cs u (x + p * ((t : Int) - u)) else A1 v cs t x) (fun t x => if t ≤ k then ∀ u, u ≤ t → B1 v cs u (x - p * ((t : Int) - u)) else B1 v cs t x)) ?_ ?_ ?_)
  · refine T1.of fun t ht x => ?_
    by_cases h0 : t ≤ 0
    · obtain rfl : t = 0 := by omega
      rw [if_pos h0, if_pos h0]
      constructor
      · constructor
        · intro h u hu
          obtain rfl : u = 0 := by omega
          simpa using h
        · intro h; simpa using h 0 (Nat.le_refl 0)
      · constructor
        · intro h u hu
          obtain rfl : u = 0 := by omega
          simpa using h
        · intro h; simpa using h 0 (Nat.le_refl 0)
    · rw [if_neg h0, if_neg h0]; exact ⟨Iff.rfl, Iff.rfl⟩
  · rintro k ⟨lo, hi⟩ hk T
    have hkn : k + 1 < n := by omega
    obtain ⟨l, h, e1, e2, b⟩ := T.get hkn
    obtain ⟨l', h', e1', e2', b'⟩ := T.get (t := k) (by omega)
    obtain ⟨h1, h2, _⟩ := id T
    have h1 : lo.length = n := h1
    have h2 : hi.length = n := h2
    have ek : (1 : Int) + (k : Int) = ((k + 1 : Nat) : Int) := by omega
    have ek2 : (1 : Int) + (k : Int) - 1 = (k : Int) := by omega
    have E1 : atI lo (1 + (k : Int)) = some l := by rw [ek]; exact e1
    have E2 : atI hi (1 + (k : Int)) = some h := by rw [ek]; exact e2
    have E1' : atI lo (1 + (k : Int) - 1) = some l' := by rw [ek2]; exact e1'
    have E2' : atI hi (1 + (k : Int) - 1) = some h' := by rw [ek2]; exact e2'
    refine ex_bind E1 (ex_bind E1' (ex_bind (setO_eq (by omega) (by omega)) (ex_bind E2 (ex_bind E2' (ex_bind (setO_eq (by omega) (by omega)) ⟨_, rfl, ?_⟩)))))
    rw [show ((1 : Int) + (k : Int)).toNat = k + 1 by omega]
    have bl := b.lo
    have bh := b.hi
    have bl' := b'.lo
    have bh' := b'.hi
    simp only [if_neg (show ¬ k + 1 ≤ k by omega), if_pos (Nat.le_refl k)] at bl bh bl' bh'
    have hmul : ∀ u : Nat, p * (((k + 1 : Nat) : Int) - (u : Int)) = p + p * ((k : Int) - u) := fun u => by rcases hp with rfl | rfl | rfl | rfl <;> omega
    refine T.set hkn ⟨fun x => ?_, fun x => ?_⟩ fun t e ht x => ?_
    · rw [if_pos (Nat.le_refl _), Int.max_le, bl, show l' - p ≤ x ↔ l' ≤ x + p by omega, bl']
      constructor
      · rintro ⟨a1, a2⟩ u hu
        by_cases hu2 : u = k + 1
        · subst hu2
          rw [show x + p * (((k + 1 : Nat) : Int) - ((k + 1 : Nat) : Int)) = x by rw [Int.sub_self, Int.mul_zero, Int.add_zero]]; exact a1
        · have := a2 u (by omega)
          rw [hmul u, ← Int.add_assoc]; exact this
      · intro a
        refine ⟨?_, fun u hu => ?_⟩
        · have := a (k + 1) (Nat.le_refl _)
          rwa [show x + p * (((k + 1 : Nat) : Int) - ((k + 1 : Nat) : Int)) = x by rw [Int.sub_self, Int.mul_zero, Int.add_zero]] at this
        · have := a u (by omega)
          rwa [hmul u, ← Int.add_assoc] at this
    · rw [if_pos (Nat.le_refl _), Int.le_min, bh, show x ≤ h' + p ↔ x - p ≤ h' by omega, bh']
      constructor
      · rintro ⟨a1, a2⟩ u hu
        by_cases hu2 : u = k + 1
        · subst hu2
          rw [show x - p * (((k + 1 : Nat) : Int) - ((k + 1 : Nat) : Int)) = x by rw [Int.sub_self, Int.mul_zero, Int.sub_zero]]; exact a1
        · have := a2 u (by omega)
          rw [hmul u, show x - (p + p * ((k : Int) - u)) = x - p - p * ((k : Int) - u) by omega]; exact this
      · intro a
        refine ⟨?_, fun u hu => ?_⟩
        · have := a (k + 1) (Nat.le_refl _)
          rwa [show x - p * (((k + 1 : Nat) : Int) - ((k + 1 : Nat) : Int)) = x by rw [Int.sub_self, Int.mul_zero, Int.sub_zero]] at this
        · have := a u (by omega)
          rwa [hmul u, show x - (p + p * ((k : Int) - u)) = x - p - p * ((k : Int) - u) by omega] at this
    · by_cases h0 : t ≤ k
      · rw [if_pos h0, if_pos h0, if_pos (show t ≤ k + 1 by omega), if_pos (show t ≤ k + 1 by omega)]; exact ⟨Iff.rfl, Iff.rfl⟩
      · rw [if_neg h0, if_neg h0, if_neg (show ¬ t ≤ k + 1 by omega), if_neg (show ¬ t ≤ k + 1 by omega)]; exact ⟨Iff.rfl, Iff.rfl⟩
  rintro ⟨lo2, hi2⟩ T2
  have T2 := T2.of (A' := fun t x => ∀ u, u ≤ t → A1 v cs u (x + p * ((t : Int) - u))) (B' := fun t x => ∀ u, u ≤ t → B1 v cs u (x - p * ((t : Int) - u))) fun t ht x => by
    rw [if_pos (show t ≤ n - 1 by omega), if_pos (show t ≤ n - 1 by omega)]; exact ⟨Iff.rfl, Iff.rfl⟩
  -- backward
  refine ex_bind (rngO_eq (by omega)) (ex_fold_rngL (lo := 1) (n := n - 1) (by omega) (fun k t => Tb n t.1 t.2 (fun t x => if n ≤ t + k + 1 then ∀ s, t ≤ s → s < n → ∀ u, u ≤ s → A1 v cs u (x + p * ((s : Int) - t) + p * ((s : Int) - u)) else ∀ u, u ≤ t → A1 v cs u (x + p * ((t : Int) - u)))
      (fun t x => if n ≤ t + k + 1 then ∀ s, t ≤ s → s < n → ∀ u, u ≤ s → B1 v cs u (x - p * ((s : Int) - t) - p * ((s : Int) - u)) else ∀ u, u ≤ t → B1 v cs u (x - p * ((t : Int) - u)))) ?_ ?_ ?_)
  · refine T2.of fun t ht x => ?_
    by_cases h0 : n ≤ t + 0 + 1
    · rw [if_pos h0, if_pos h0]
      have es : ∀ s, t ≤ s → s < n → s = t := fun s h1 h2 => by omega
      constructor
      · constructor
        · intro h s h1 h2 u hu
          obtain rfl := es s h1 h2
          rw [Int.sub_self, Int.mul_zero, Int.add_zero]; exact h u hu
        · intro h u hu
          have := h t (Nat.le_refl t) ht u hu
          rwa [Int.sub_self, Int.mul_zero, Int.add_zero] at this
      · constructor
        · intro h s h1 h2 u hu
          obtain rfl := es s h1 h2
          rw [Int.sub_self, Int.mul_zero, Int.sub_zero]; exact h u hu
        · intro h u hu
          have := h t (Nat.le_refl t) ht u hu
          rwa [Int.sub_self, Int.mul_zero, Int.sub_zero] at this
    · rw [if_neg h0, if_neg h0]; exact ⟨Iff.rfl, Iff.rfl⟩
  · rintro k ⟨lo, hi⟩ hk T
    obtain ⟨m, rfl⟩ : ∃ m, n = m + k + 2 := ⟨n - k - 2, by omega⟩
    obtain ⟨l, h, e1, e2, b⟩ := T.get (t := m) (by omega)
    obtain ⟨l', h', e1', e2', b'⟩ := T.get (t := m + 1) (by omega)
    obtain ⟨h1, h2, _⟩ := id T
    have h1 : lo.length = m + k + 2 := h1
    have h2 : hi.length = m + k + 2 := h2
    have ek : ((m + k + 2 : Nat) : Int) - 1 - (1 + (k : Int)) = (m : Int) := by omega
    refine ex_bind rfl ?_
    rw [ek]
    have ek2 : (m : Int) + 1 = ((m + 1 : Nat) : Int) := by omega
    have E1' : atI lo ((m : Int) + 1) = some l' := by rw [ek2]; exact e1'
    have E2' : atI hi ((m : Int) + 1) = some h' := by rw [ek2]; exact e2'
    refine ex_bind e1 (ex_bind E1' (ex_bind (setO_eq (by omega) (by omega)) (ex_bind e2 (ex_bind E2' (ex_bind (setO_eq (by omega) (by omega)) ⟨_, rfl, ?_⟩)))))
    rw [Int.toNat_natCast]
    have bl := b.lo
    have bh := b.hi
    have bl' := b'.lo
    have bh' := b'.hi
    simp only [if_neg (show ¬ m + k + 2 ≤ m + k + 1 by omega), if_pos (show m + k + 2 ≤ m + 1 + k + 1 by omega)] at bl bh bl' bh'
    have hmul : ∀ s : Nat, p * ((s : Int) - (m : Int)) = p + p * ((s : Int) - ((m + 1 : Nat) : Int)) := fun s => by rcases hp with rfl | rfl | rfl | rfl <;> omega
    refine T.set (k := m) (by omega) ⟨fun x => ?_, fun x => ?_⟩ fun t e ht x => ?_
    · rw [if_pos (show m + k + 2 ≤ m + (k + 1) + 1 by omega), Int.max_le, bl, show l' - p ≤ x ↔ l' ≤ x + p by omega, bl']
      constructor
      · rintro ⟨a1, a2⟩ s hs1 hs2 u hu
        by_cases hs : s = m
        · subst hs
          rw [Int.sub_self, Int.mul_zero, Int.add_zero]; exact a1 u hu
        · have := a2 s (by omega) hs2 u hu
          rw [hmul s, ← Int.add_assoc]; exact this
      · intro a
        refine ⟨fun u hu => ?_, fun s hs1 hs2 u hu => ?_⟩
        · have := a m (Nat.le_refl m) (by omega) u hu
          rwa [Int.sub_self, Int.mul_zero, Int.add_zero] at this
        · have := a s (by omega) hs2 u hu
          rwa [hmul s, ← Int.add_assoc] at this
    · rw [if_pos (show m + k + 2 ≤ m + (k + 1) + 1 by omega), Int.le_min, bh, show x ≤ h' + p ↔ x - p ≤ h' by omega, bh']
      constructor
      · rintro ⟨a1, a2⟩ s hs1 hs2 u hu
        by_cases hs : s = m
        · subst hs
          rw [Int.sub_self, Int.mul_zero, Int.sub_zero]; exact a1 u hu
        · have := a2 s (by omega) hs2 u hu
          rw [hmul s, show x - (p + p * ((s : Int) - ((m + 1 : Nat) : Int))) = x - p - p * ((s : Int) - ((m + 1 : Nat) : Int)) by omega]; exact this
      · intro a
        refine ⟨fun u hu => ?_, fun s hs1 hs2 u hu => ?_⟩
        · have := a m (Nat.le_refl m) (by omega) u hu
          rwa [Int.sub_self, Int.mul_zero, Int.sub_zero] at this
        · have := a s (by omega) hs2 u hu
          rwa [hmul s, show x - (p + p * ((s : Int) - ((m + 1 : Nat) : Int))) = x - p - p * ((s : Int) - ((m + 1 : Nat) : Int)) by omega] at this
    · by_cases h0 : m + k + 2 ≤ t + k + 1
      · rw [if_pos h0, if_pos h0, if_pos (show m + k + 2 ≤ t + (k + 1) + 1 by omega), if_pos (show m + k + 2 ≤ t + (k + 1) + 1 by omega)]; exact ⟨Iff.rfl, Iff.rfl⟩
      · rw [if_neg h0, if_neg h0, if_neg (show ¬ m + k + 2 ≤ t + (k + 1) + 1 by omega), if_neg (show ¬ m + k + 2 ≤ t + (k + 1) + 1 by omega)]; exact ⟨Iff.rfl, Iff.rfl⟩
  rintro ⟨lo3, hi3⟩ T3
  have T3 := T3.of (A' := fun t x => ∀ s, t ≤ s → s < n → ∀ u, u ≤ s → A1 v cs u (x + p * ((s : Int) - t) + p * ((s : Int) - u))) (B' := fun t x => ∀ s, t ≤ s → s < n → ∀ u, u ≤ s → B1 v cs u (x - p * ((s : Int) - t) - p * ((s : Int) - u))) fun t ht x => by
    rw [if_pos (show n ≤ t + (n - 1) + 1 by omega), if_pos (show n ≤ t + (n - 1) + 1 by omega)]; exact ⟨Iff.rfl, Iff.rfl⟩
  obtain ⟨g1, g2, g3⟩ := T3
  have g1 : lo3.length = n := g1
  have g2 : hi3.length = n := g2
  have ec : compM (fun (x37 : Int) => ((atI lo3 x37).bind fun t38 => ((atI hi3 x37).bind fun t39 => (some (some (t38, t39)))))) (rng 0 (n : Int)) = some (List.zip lo3 hi3) := by
    have := compM_at (xs := List.zip lo3 hi3) (g := id) (n := (n : Int)) (by rw [List.length_zip, g1, g2, Nat.min_self])
    rw [List.map_id] at this
    rw [← this]
    have key : ∀ ys : List Int, (∀ y ∈ ys, 0 ≤ y ∧ y < n) → compM (fun (x37 : Int) => ((atI lo3 x37).bind fun t38 => ((atI hi3 x37).bind fun t39 => (some (some (t38, t39)))))) ys = compM (fun i => (atI (List.zip lo3 hi3) i).bind fun q => some (some (id q))) ys := by
      intro ys
      induction ys with
      | nil => intro _; rfl
      | cons y ys ih =>
        intro h
        have hy := h y List.mem_cons_self
        have e1 := ih fun z hz => h z (List.mem_cons_of_mem _ hz)
        have e2 : ((atI lo3 y).bind fun t38 => ((atI hi3 y).bind fun t39 => (some (some (t38, t39))))) = (atI (List.zip lo3 hi3) y).bind fun q => some (some (id q)) := by
          rw [atI_pos hy.1, atI_pos hy.1, atI_pos hy.1, List.getElem?_eq_getElem (show y.toNat < lo3.length by omega), List.getElem?_eq_getElem (show y.toNat < hi3.length by omega), List.getElem?_eq_getElem (show y.toNat < (List.zip lo3 hi3).length by rw [List.length_zip]; omega)]
          simp
        simp only [compM, e1, e2]
    exact key _ fun y hy => mem_rng.mp hy
  refine ex_bind (rngO_eq (by omega)) (ex_bind ec ⟨_, rfl, by rw [List.length_zip, g1, g2, Nat.min_self], fun t ht => ?_⟩)
  obtain ⟨l, h, e1, e2, b⟩ := g3 t ht
  exact ⟨l, h, List.getElem?_zip_eq_some.mpr ⟨e1, e2⟩, b⟩
/-! ### the sides are the bounds; heard or not -/
/-- what the made calls keep -/
def Ok (n : Nat) (c : Int × Int × Int × Int) : Prop := 0 ≤ c.1 ∧ c.1 < n ∧ 0 ≤ c.2.2.2 ∧ c.2.2.2 ≤ 2 ∧ -1000 ≤ c.2.1 ∧ c.2.1 ≤ 1000 ∧ -1000 ≤ c.2.2.1 ∧ c.2.2.1 ≤ 1000
theorem side_same {p : Int} (hp : Pc p) {cs : List (Int × Int × Int × Int)} {n : Nat} (hn : n ≤ 100) (hne : cs ≠ []) (v : Int × Int × Int × Int → Int) (hok : ∀ c ∈ cs, Ok n c) (hv : ∀ c ∈ cs, -1000 ≤ v c ∧ v c ≤ 1000) {t : Nat} (ht : t < n) :
    (∀ x, (∀ s, t ≤ s → s < n → ∀ u, u ≤ s → A1 v cs u (x + p * ((s : Int) - t) + p * ((s : Int) - u))) ↔ LoA p v cs t x) ∧ (∀ x, (∀ s, t ≤ s → s < n → ∀ u, u ≤ s → B1 v cs u (x - p * ((s : Int) - t) - p * ((s : Int) - u))) ↔ HiB p v cs t x) := by
  obtain ⟨c0, hc0⟩ := List.exists_mem_of_ne_nil cs hne
  have o0 := hok c0 hc0
  have v0 := hv c0 hc0
  unfold Ok at o0
  constructor
  · intro x
    constructor
    · intro h c hc
      have oc := hok c hc
      unfold Ok at oc
      obtain ⟨u, hu⟩ := Int.eq_ofNat_of_zero_le oc.1
      have hs : ∃ s : Nat, t ≤ s ∧ u ≤ s ∧ s < n ∧ (s = t ∨ s = u) := by
        by_cases hut : u ≤ t
        · exact ⟨t, Nat.le_refl t, hut, ht, .inl rfl⟩
        · exact ⟨u, by omega, Nat.le_refl u, by omega, .inr rfl⟩
      obtain ⟨s, s1, s2, s3, s4⟩ := hs
      have := (h s s1 s3 u s2).2 c hc hu
      rw [hu]
      rcases hp with rfl | rfl | rfl | rfl <;> omega
    · intro h s s1 s2 u hu
      refine ⟨?_, fun c hc he => ?_⟩
      · have := h c0 hc0
        rcases hp with rfl | rfl | rfl | rfl <;> omega
      · have := h c hc
        rw [he] at this
        rcases hp with rfl | rfl | rfl | rfl <;> omega
  · intro x
    constructor
    · intro h c hc
      have oc := hok c hc
      unfold Ok at oc
      obtain ⟨u, hu⟩ := Int.eq_ofNat_of_zero_le oc.1
      have hs : ∃ s : Nat, t ≤ s ∧ u ≤ s ∧ s < n ∧ (s = t ∨ s = u) := by
        by_cases hut : u ≤ t
        · exact ⟨t, Nat.le_refl t, hut, ht, .inl rfl⟩
        · exact ⟨u, by omega, Nat.le_refl u, by omega, .inr rfl⟩
      obtain ⟨s, s1, s2, s3, s4⟩ := hs
      have := (h s s1 s3 u s2).2 c hc hu
      rw [hu]
      rcases hp with rfl | rfl | rfl | rfl <;> omega
    · intro h s s1 s2 u hu
      refine ⟨?_, fun c hc he => ?_⟩
      · have := h c0 hc0
        rcases hp with rfl | rfl | rfl | rfl <;> omega
      · have := h c hc
        rw [he] at this
        rcases hp with rfl | rfl | rfl | rfl <;> omega
def v1 (c : Int × Int × Int × Int) : Int := c.2.1
def v2 (c : Int × Int × Int × Int) : Int := c.2.2.1
/-- the rows of a side: at each time what side_bounds tells -/
theorem side_rows {p : Int} (hp : Pc p) {cs : List (Int × Int × Int × Int)} {n : Nat} (hn1 : 1 ≤ n) (hn : n ≤ 100) (hne : cs ≠ []) (hok : ∀ c ∈ cs, Ok n c) (side : Int) (v : Int × Int × Int × Int → Int) (hv : ∀ x : Int × Int × Int × Int, atI [x.1, x.2.1, x.2.2.1, x.2.2.2] side = some (v x)) (hb : ∀ c ∈ cs, -1000 ≤ v c ∧ v c ≤ 1000) :
    ∃ rows, m__law_side cs p (n : Int) side = some rows ∧ rows.length = n ∧ ∀ t < n, ∃ l h, rows[t]? = some (l, h) ∧ m_side_bounds cs p (t : Int) side = some (l, h) ∧ Bd l h (LoA p v cs t) (HiB p v cs t) := by
  obtain ⟨rows, e, hl, h⟩ := law_side hp hn1 (by omega) (fun c hc => by have := hok c hc; unfold Ok at this; omega) side v hv
  refine ⟨rows, e, hl, fun t ht => ?_⟩
  obtain ⟨l, h1, e1, b⟩ := h t ht
  obtain ⟨ha, hbb⟩ := side_same hp hn hne v hok hb ht
  have b' := b.of ha hbb
  obtain ⟨l', h', e2, b2⟩ := side_bounds hp hne (t : Int) side v hv
  obtain ⟨rfl, rfl⟩ := b'.uniq b2
  exact ⟨l, h1, e1, e2, b'⟩
theorem bd_le {p : Int} {v : Int × Int × Int × Int → Int} {cs : List (Int × Int × Int × Int)} {t l h : Int} (b : Bd l h (LoA p v cs t) (HiB p v cs t)) : l ≤ h ↔ ∀ a ∈ cs, ∀ c ∈ cs, v a - (a.2.2.2 + p * ((a.1 - t).natAbs : Int)) ≤ v c + (c.2.2.2 + p * ((c.1 - t).natAbs : Int)) := by
  rw [b.lo h]
  unfold LoA
  constructor
  · intro h1 a ha c hc
    exact (b.hi _).mp (h1 a ha) c hc
  · intro h1 a ha
    exact (b.hi _).mpr fun c hc => h1 a ha c hc
theorem heard_iff {p : Int} (hp : Pc p) {cs : List (Int × Int × Int × Int)} {n : Nat} (hok : ∀ c ∈ cs, Ok n c) {f1 f2 : Nat → Int × Int} (b1 : ∀ t < n, Bd (f1 t).1 (f1 t).2 (LoA p v1 cs t) (HiB p v1 cs t)) (b2 : ∀ t < n, Bd (f2 t).1 (f2 t).2 (LoA p v2 cs t) (HiB p v2 cs t)) :
    (∀ t < n, (f1 t).1 ≤ (f1 t).2 ∧ (f2 t).1 ≤ (f2 t).2) ↔ pairsOf p cs = [] := by
  rw [pairs_nil]
  constructor
  · intro h i j hij a b ha hb
    have hma := List.mem_of_getElem? ha
    have hmb := List.mem_of_getElem? hb
    have oa := hok a hma
    have ob := hok b hmb
    unfold Ok at oa ob
    obtain ⟨t, ht⟩ := Int.eq_ofNat_of_zero_le oa.1
    obtain ⟨g1, g2⟩ := h t (by omega)
    have k1 := (bd_le (b1 t (by omega))).mp g1
    have k2 := (bd_le (b2 t (by omega))).mp g2
    have q1 := k1 a hma b hmb
    have q2 := k1 b hmb a hma
    have q3 := k2 a hma b hmb
    have q4 := k2 b hmb a hma
    unfold qr
    rw [Bool.or_eq_false_iff, decide_eq_false_iff_not, decide_eq_false_iff_not]
    rw [← ht] at q1 q2 q3 q4
    unfold v1 at q1 q2
    unfold v2 at q3 q4
    rcases hp with rfl | rfl | rfl | rfl <;> omega
  · intro h t ht
    have key : ∀ a ∈ cs, ∀ c ∈ cs, ((a.2.1 - c.2.1).natAbs : Int) ≤ a.2.2.2 + c.2.2.2 + p * ((a.1 - c.1).natAbs : Int) ∧ ((a.2.2.1 - c.2.2.1).natAbs : Int) ≤ a.2.2.2 + c.2.2.2 + p * ((a.1 - c.1).natAbs : Int) := by
      intro a ha c hc
      obtain ⟨i, hi⟩ := List.mem_iff_getElem?.mp ha
      obtain ⟨j, hj⟩ := List.mem_iff_getElem?.mp hc
      have oa := hok a ha
      have oc := hok c hc
      unfold Ok at oa oc
      rcases Nat.lt_trichotomy i j with hij | hij | hij
      · have := h i j hij a c hi hj
        unfold qr at this
        rw [Bool.or_eq_false_iff, decide_eq_false_iff_not, decide_eq_false_iff_not] at this
        omega
      · subst hij
        rw [hi] at hj
        obtain rfl := Option.some.inj hj
        rcases hp with rfl | rfl | rfl | rfl <;> omega
      · have := h j i hij c a hj hi
        unfold qr at this
        rw [Bool.or_eq_false_iff, decide_eq_false_iff_not, decide_eq_false_iff_not] at this
        rcases hp with rfl | rfl | rfl | rfl <;> omega
    refine ⟨(bd_le (b1 t ht)).mpr fun a ha c hc => ?_, (bd_le (b2 t ht)).mpr fun a ha c hc => ?_⟩
    · have := (key a ha c hc).1
      unfold v1
      rcases hp with rfl | rfl | rfl | rfl <;> omega
    · have := (key a ha c hc).2
      unfold v2
      rcases hp with rfl | rfl | rfl | rfl <;> omega
/-! the hidden walk and the calls -/
theorem atI_last1 {α : Type} {xs : List α} (h : xs ≠ []) : ∃ x, atI xs (-(1 : Int)) = some x ∧ xs[xs.length - 1]? = some x := by
  have hl : 0 < xs.length := List.length_pos_iff.mpr h
  refine ⟨xs[xs.length - 1], ?_, List.getElem?_eq_getElem _⟩
  unfold atI ixN
  rw [if_neg (by decide), if_pos (by omega), show (-(1 : Int) + (xs.length : Int)).toNat = xs.length - 1 by omega]
  exact List.getElem?_eq_getElem _
theorem hidden {p : Int} (hp : Pc p) {dr : List Int} (hd : Dr dr 8) {last : Int} (h0 : 0 ≤ last) (h6 : last ≤ 6) :
    ∃ cells, m__law_hidden dr p last = some cells ∧ (cells.length : Int) = last + 1 ∧ (∀ (i : Nat) c, cells[i]? = some c → -8 - 3 * (i : Int) ≤ c.1 ∧ c.1 ≤ 8 + 3 * (i : Int) ∧ -8 - 3 * (i : Int) ≤ c.2 ∧ c.2 ≤ 8 + 3 * (i : Int)) ∧ (∀ (i : Nat) a b, cells[i]? = some a → cells[i + 1]? = some b → ((a.1 - b.1).natAbs : Int) ≤ p ∧ ((a.2 - b.2).natAbs : Int) ≤ p) := by
  have hq := hp.rng
  obtain ⟨d0, e0, a0, b0⟩ := hd.at (i := 0) (by omega) (by omega)
  obtain ⟨d1, e1, a1, b1⟩ := hd.at (i := 1) (by omega) (by omega)
  unfold m__law_hidden
  refine ex_bind e0 (ex_bind e1 (ex_bind rfl (ex_bind (rngO_eq (by omega)) (ex_fold_rngI (fun k t => t.length = k + 1 ∧ (∀ (i : Nat) c, t[i]? = some c → -8 - 3 * (i : Int) ≤ c.1 ∧ c.1 ≤ 8 + 3 * (i : Int) ∧ -8 - 3 * (i : Int) ≤ c.2 ∧ c.2 ≤ 8 + 3 * (i : Int)) ∧ (∀ (i : Nat) a b, t[i]? = some a → t[i + 1]? = some b → ((a.1 - b.1).natAbs : Int) ≤ p ∧ ((a.2 - b.2).natAbs : Int) ≤ p)) h0 ?_ ?_ ?_))))
  · refine ⟨rfl, fun i c hc => ?_, fun i a b _ hb => by simp at hb⟩
    cases i with
    | zero =>
      obtain rfl := Option.some.inj hc
      show -8 - 3 * ((0 : Nat) : Int) ≤ d0 % 12 - 4 ∧ d0 % 12 - 4 ≤ 8 + 3 * ((0 : Nat) : Int) ∧ -8 - 3 * ((0 : Nat) : Int) ≤ d1 % 12 - 4 ∧ d1 % 12 - 4 ≤ 8 + 3 * ((0 : Nat) : Int)
      omega
    | succ i => simp at hc
  · rintro k t hk ⟨hl, hb, hs⟩
    obtain ⟨u, eu, au, bu⟩ := hd.at (i := 2 + k) (by omega) (by omega)
    obtain ⟨c, ec, gc⟩ := atI_last1 (xs := t) (fun z => by rw [z] at hl; cases hl)
    rw [hl, Nat.add_sub_cancel] at gc
    have bc := hb k c gc
    have m1 := Int.emod_nonneg u (b := 2 * p + 1) (by omega)
    have m2 := Int.emod_lt_of_pos u (b := 2 * p + 1) (by omega)
    have m3 := Int.emod_nonneg (u / 8) (b := 2 * p + 1) (by omega)
    have m4 := Int.emod_lt_of_pos (u / 8) (b := 2 * p + 1) (by omega)
    refine ex_bind eu (ex_bind ec (ex_bind (modO_eq (by omega)) (ex_bind ec (ex_bind (modO_eq (by omega)) (ex_bind (appO_eq (by omega)) ⟨_, rfl, by rw [List.length_append, hl]; rfl, fun i d hd => ?_, fun i a b ha hb' => ?_⟩)))))
    · by_cases hi : i < k + 1
      · rw [List.getElem?_append_left (by omega)] at hd
        exact hb i d hd
      · have hi2 : i = k + 1 := by
          have := (List.getElem?_eq_some_iff.mp hd).1
          rw [List.length_append, hl, List.length_singleton] at this
          omega
        subst hi2
        rw [List.getElem?_append_right (by omega), hl, Nat.sub_self] at hd
        obtain rfl := Option.some.inj hd
        show -8 - 3 * ((k + 1 : Nat) : Int) ≤ c.1 + u % (2 * p + 1) - p ∧ c.1 + u % (2 * p + 1) - p ≤ 8 + 3 * ((k + 1 : Nat) : Int) ∧ -8 - 3 * ((k + 1 : Nat) : Int) ≤ c.2 + (u / 8) % (2 * p + 1) - p ∧ c.2 + (u / 8) % (2 * p + 1) - p ≤ 8 + 3 * ((k + 1 : Nat) : Int)
        omega
    · by_cases hi : i + 1 < k + 1
      · rw [List.getElem?_append_left (by omega)] at ha hb'
        exact hs i a b ha hb'
      · have hi2 : i = k := by
          have := (List.getElem?_eq_some_iff.mp hb').1
          rw [List.length_append, hl, List.length_singleton] at this
          omega
        subst hi2
        rw [List.getElem?_append_left (by omega), gc] at ha
        rw [List.getElem?_append_right (by omega), hl, Nat.sub_self] at hb'
        obtain rfl := Option.some.inj ha
        obtain rfl := Option.some.inj hb'
        show ((c.1 - (c.1 + u % (2 * p + 1) - p)).natAbs : Int) ≤ p ∧ ((c.2 - (c.2 + (u / 8) % (2 * p + 1) - p)).natAbs : Int) ≤ p
        omega
  · rintro t ⟨hl, hb, hs⟩
    exact ⟨t, rfl, by omega, hb, hs⟩
/-- far apart in time, as far as paces lead -/
theorem far {p : Int} (hp : Pc p) {cells : List (Int × Int)} (hs : ∀ (i : Nat) a b, cells[i]? = some a → cells[i + 1]? = some b → ((a.1 - b.1).natAbs : Int) ≤ p ∧ ((a.2 - b.2).natAbs : Int) ≤ p) (i : Nat) : ∀ (k : Nat) a b, cells[i]? = some a → cells[i + k]? = some b → ((a.1 - b.1).natAbs : Int) ≤ p * (k : Int) ∧ ((a.2 - b.2).natAbs : Int) ≤ p * (k : Int)
  | 0, a, b, ha, hb => by
    rw [Nat.add_zero, ha] at hb
    obtain rfl := Option.some.inj hb
    simp
  | k + 1, a, b, ha, hb => by
    have hl := (List.getElem?_eq_some_iff.mp hb).1
    have hc : cells[i + k]? = some cells[i + k] := List.getElem?_eq_getElem (by omega)
    have h1 := far hp hs i k a _ ha hc
    have h2 := hs (i + k) _ b hc hb
    rcases hp with rfl | rfl | rfl | rfl <;> omega
theorem calls_ok {dr : List Int} (hd : Dr dr 10) {cells : List (Int × Int)} {n : Nat} (hn : cells.length = n) (hn1 : 1 ≤ n) (hn2 : n ≤ 7) (hc : ∀ (i : Nat) c, cells[i]? = some c → -8 - 3 * (i : Int) ≤ c.1 ∧ c.1 ≤ 8 + 3 * (i : Int) ∧ -8 - 3 * (i : Int) ≤ c.2 ∧ c.2 ≤ 8 + 3 * (i : Int)) (free : Bool) :
    ∃ calls, m__law_calls dr cells free = some calls ∧ 1 ≤ calls.length ∧ calls.length ≤ 4 ∧ ∀ c ∈ calls, (0 ≤ c.1 ∧ c.1 < n ∧ 0 ≤ c.2.2.2 ∧ c.2.2.2 ≤ 2 ∧ -100 ≤ c.2.1 ∧ c.2.1 ≤ 100 ∧ -100 ≤ c.2.2.1 ∧ c.2.2.1 ≤ 100) ∧ (free = false → ∃ e, cells[c.1.toNat]? = some e ∧ ((c.2.1 - e.1).natAbs : Int) ≤ c.2.2.2 ∧ ((c.2.2.1 - e.2).natAbs : Int) ≤ c.2.2.2) := by
  obtain ⟨d0, e0, a0, b0⟩ := hd.at (i := 0) (by omega) (by omega)
  unfold m__law_calls
  refine ex_bind rfl (ex_bind e0 (ex_bind (rngO_eq (by omega)) (ex_fold_rngI (fun k t => t.length = k ∧ ∀ c ∈ t, (0 ≤ c.1 ∧ c.1 < n ∧ 0 ≤ c.2.2.2 ∧ c.2.2.2 ≤ 2 ∧ -100 ≤ c.2.1 ∧ c.2.1 ≤ 100 ∧ -100 ≤ c.2.2.1 ∧ c.2.2.1 ≤ 100) ∧ (free = false → ∃ e, cells[c.1.toNat]? = some e ∧ ((c.2.1 - e.1).natAbs : Int) ≤ c.2.2.2 ∧ ((c.2.2.1 - e.2).natAbs : Int) ≤ c.2.2.2)) (by omega) ⟨rfl, by simp⟩ ?_ ?_)))
  · rintro k t hk ⟨hl, ht⟩
    obtain ⟨u, eu, au, bu⟩ := hd.at (i := 1 + k) (by omega) (by omega)
    obtain ⟨w, ew, aw, bw⟩ := hd.at (i := 5 + k) (by omega) (by omega)
    have hpos : (0 : Int) < ((cells.length : Nat) : Int) := by omega
    have q0 : 0 ≤ u / 3 := Int.ediv_nonneg au (by decide)
    have m1 := Int.emod_nonneg (u / 3) (b := ((cells.length : Nat) : Int)) (by omega)
    have m2 := Int.emod_lt_of_pos (u / 3) hpos
    obtain ⟨e, ee, _, ge⟩ := atI_lt (xs := cells) m1 m2
    have be := hc _ e ge
    have d1 : 0 ≤ u % 3 ∧ u % 3 ≤ 2 := by omega
    have m3 := Int.emod_nonneg (u / 21) (b := 2 * (u % 3) + 1) (by omega)
    have m4 := Int.emod_lt_of_pos (u / 21) (b := 2 * (u % 3) + 1) (by omega)
    have m5 := Int.emod_nonneg (u / 105) (b := 2 * (u % 3) + 1) (by omega)
    have m6 := Int.emod_lt_of_pos (u / 105) (b := 2 * (u % 3) + 1) (by omega)
    have hj : ∃ own : Int × Int, (if (free && (decide ((0 : Int) < (k : Int)))) = true then ((atI dr ((5 : Int) + (k : Int))).bind fun t23 => (atI dr ((5 : Int) + (k : Int))).bind fun t24 => (some (((t23 % (15 : Int)) - (5 : Int)), (((t24 / (15 : Int)) % (15 : Int)) - (5 : Int)))).bind fun own25 => some (own25)) else (some (((e.1 + (u / 21) % (2 * (u % 3) + 1)) - u % 3), ((e.2 + (u / 105) % (2 * (u % 3) + 1)) - u % 3)))) = some own ∧
        (-100 ≤ own.1 ∧ own.1 ≤ 100 ∧ -100 ≤ own.2 ∧ own.2 ≤ 100) ∧ (free = false → ((own.1 - e.1).natAbs : Int) ≤ u % 3 ∧ ((own.2 - e.2).natAbs : Int) ≤ u % 3) := by
      by_cases hf : (free && (decide ((0 : Int) < (k : Int)))) = true
      · refine ⟨_, itt hf (bnd ew (bnd ew (bnd rfl rfl))), ?_, fun z => ?_⟩
        · show -100 ≤ w % 15 - 5 ∧ w % 15 - 5 ≤ 100 ∧ -100 ≤ w / 15 % 15 - 5 ∧ w / 15 % 15 - 5 ≤ 100
          omega
        · rw [z] at hf; cases hf
      · refine ⟨_, itf (Bool.eq_false_iff.mpr hf) rfl, ?_, fun _ => ?_⟩
        · show -100 ≤ e.1 + (u / 21) % (2 * (u % 3) + 1) - u % 3 ∧ e.1 + (u / 21) % (2 * (u % 3) + 1) - u % 3 ≤ 100 ∧ -100 ≤ e.2 + (u / 105) % (2 * (u % 3) + 1) - u % 3 ∧ e.2 + (u / 105) % (2 * (u % 3) + 1) - u % 3 ≤ 100
          omega
        · show ((e.1 + (u / 21) % (2 * (u % 3) + 1) - u % 3 - e.1).natAbs : Int) ≤ u % 3 ∧ ((e.2 + (u / 105) % (2 * (u % 3) + 1) - u % 3 - e.2).natAbs : Int) ≤ u % 3
          omega
    obtain ⟨own, ho, hb1, hb2⟩ := hj
    refine ex_bind eu (ex_bind rfl (ex_bind (modO_eq hpos) (ex_bind ee (ex_bind (modO_eq (by omega)) (ex_bind ee (ex_bind (modO_eq (by omega)) (ex_bind rfl (ex_bind ho (ex_bind (appO_eq (by omega)) ⟨_, rfl, by rw [List.length_append, hl]; rfl, fun c hcm => ?_⟩)))))))))
    rcases List.mem_append.mp hcm with h | h
    · exact ht c h
    · rw [List.mem_singleton.mp h]
      refine ⟨?_, fun z => ⟨e, ge, hb2 z⟩⟩
      show 0 ≤ u / 3 % ((cells.length : Nat) : Int) ∧ u / 3 % ((cells.length : Nat) : Int) < n ∧ 0 ≤ u % 3 ∧ u % 3 ≤ 2 ∧ -100 ≤ own.1 ∧ own.1 ≤ 100 ∧ -100 ≤ own.2 ∧ own.2 ≤ 100
      omega
  · rintro t ⟨hl, ht⟩
    exact ⟨t, rfl, by omega, by omega, ht⟩
/-! walks that are asked -/
theorem near_law (a b : Int × Int) (r : Int) : m__law_near a b r = m_are_near a b r := rfl
def nr (a b : Int × Int) (r : Int) : Bool := (decide (((Int.natAbs (a.1 - b.1) : Nat) : Int) ≤ r)) && (decide (((Int.natAbs (a.2 - b.2) : Nat) : Int) ≤ r))
theorem heard_eq {p last : Int} (h0 : 0 ≤ last) (h6 : last ≤ 100) {cs : List (Int × Int × Int × Int)} (hc : ∀ c ∈ cs, 0 ≤ c.1 ∧ c.1 < last + 1) (w : List (Int × Int)) : ∃ b, m_is_heard_walk cs p last w = some b ∧ m__law_heard cs p last w = some b := by
  unfold m_is_heard_walk m__law_heard
  by_cases hl : ((w.length : Nat) : Int) = last + 1
  · let g1 : Int → Bool := fun i => match atI w i, atI w (i + 1) with | some a, some b => nr a b p | _, _ => false
    have hg1 : ∀ i ∈ rng 0 last, ∃ a b, atI w i = some a ∧ atI w (i + 1) = some b ∧ g1 i = nr a b p := fun i hi => by
      rw [mem_rng] at hi
      obtain ⟨a, ea, _⟩ := atI_lt (xs := w) (i := i) (by omega) (by omega)
      obtain ⟨b, eb, _⟩ := atI_lt (xs := w) (i := i + 1) (by omega) (by omega)
      refine ⟨a, b, ea, eb, ?_⟩
      show (match atI w i, atI w (i + 1) with | some a, some b => nr a b p | _, _ => false) = _
      rw [ea, eb]
    let g2 : (Int × Int × Int × Int) → Bool := fun c => match atI w c.1 with | some a => nr a (c.2.1, c.2.2.1) c.2.2.2 | _ => false
    have hg2 : ∀ c ∈ cs, ∃ a, atI w c.1 = some a ∧ g2 c = nr a (c.2.1, c.2.2.1) c.2.2.2 := fun c hcm => by
      obtain ⟨a, ea, _⟩ := atI_lt (xs := w) (i := c.1) (hc c hcm).1 (by have := (hc c hcm).2; omega)
      refine ⟨a, ea, ?_⟩
      show (match atI w c.1 with | some a => nr a (c.2.1, c.2.2.1) c.2.2.2 | _ => false) = _
      rw [ea]
    have q1 : quantM true (fun (x6 : Int) => ((atI w x6).bind fun t7 => ((atI w (x6 + (1 : Int))).bind fun t8 => ((m_are_near t7 t8 p).bind fun t9 => (some (some t9)))))) (rng 0 last) = some ((rng 0 last).all g1) :=
      quantM_all fun i hi => by
        obtain ⟨a, b, ea, eb, eg⟩ := hg1 i hi
        rw [eg]
        exact bnd ea (bnd eb (bnd rfl rfl))
    have q2 : quantM true (fun (x11 : (Int × Int × Int × Int)) => ((atI w x11.1).bind fun t12 => ((m_are_near t12 (x11.2.1, x11.2.2.1) x11.2.2.2).bind fun t13 => (some (some t13))))) cs = some (cs.all g2) :=
      quantM_all fun c hcm => by
        obtain ⟨a, ea, eg⟩ := hg2 c hcm
        rw [eg]
        exact bnd ea (bnd rfl rfl)
    have c1 : compM (fun (x6 : Int) => ((atI w x6).bind fun t7 => ((atI w (x6 + (1 : Int))).bind fun t8 => ((m__law_near t7 t8 p).bind fun t9 => (if (!t9) = true then (some x6).bind (fun y => some (some y)) else some none))))) (rng 0 last) = some ((rng 0 last).filterMap fun i => if (!g1 i) = true then some i else none) :=
      compM_ok fun i hi => by
        obtain ⟨a, b, ea, eb, eg⟩ := hg1 i hi
        rw [eg]
        refine bnd ea (bnd eb (bnd (x := nr a b p) rfl ?_))
        cases nr a b p <;> rfl
    have c2 : compM (fun (x11 : (Int × Int × Int × Int)) => ((atI w x11.1).bind fun t12 => ((m__law_near t12 (x11.2.1, x11.2.2.1) x11.2.2.2).bind fun t13 => (some (some t13))))) cs = some (cs.map g2) :=
      compM_get' fun c hcm => by
        obtain ⟨a, ea, eg⟩ := hg2 c hcm
        rw [eg]
        exact bnd ea (bnd rfl rfl)
    refine ⟨(rng 0 last).all g1 && cs.all g2, itf (by rw [hl, decide_eq_true rfl]; rfl) (bnd (rngO_eq (by omega)) (bnd q1 ?_)), itf (by rw [hl, decide_eq_true rfl]; rfl) (bnd (rngO_eq (by omega)) (bnd c1 ?_))⟩
    · cases h : (rng 0 last).all g1 with
      | false => exact itt rfl rfl
      | true => exact itf rfl (bnd q2 rfl)
    · cases h : (rng 0 last).all g1 with
      | false =>
        refine itt ?_ rfl
        rw [List.all_eq_false] at h
        obtain ⟨i, hi, hn⟩ := h
        have hm : i ∈ (rng 0 last).filterMap fun i => if (!g1 i) = true then some i else none := List.mem_filterMap.mpr ⟨i, hi, by rw [if_pos (by rw [Bool.eq_false_iff.mpr hn]; rfl)]⟩
        have := List.length_pos_of_mem hm
        rw [decide_eq_true_iff]; omega
      | true =>
        rw [List.all_eq_true] at h
        have e : ((rng 0 last).filterMap fun i => if (!g1 i) = true then some i else none) = [] := by
          rw [List.filterMap_eq_nil_iff]
          intro i hi
          rw [h i hi]; rfl
        rw [e]
        refine itf rfl (bnd c2 ?_)
        rw [List.all_map]
        rfl
  · exact ⟨false, itt (by rw [decide_eq_false hl]; rfl) rfl, itt (by rw [decide_eq_false hl]; rfl) rfl⟩
theorem bent_row {row items : List (Int × Int)} {ds : List Int} {n : Int} (hr : row.length ≤ 1000) (hd : Dr ds n) (hn : 3 ≤ n) (hi : items ≠ []) : ∃ r, m__law_bent_row row ds items = some r ∧ r.length ≤ row.length + 1 + row.length := by
  obtain ⟨d0, e0, a0, b0⟩ := hd.at (i := 0) (by omega) (by omega)
  obtain ⟨d1, e1, a1, b1⟩ := hd.at (i := 1) (by omega) (by omega)
  obtain ⟨d2, e2, a2, b2⟩ := hd.at (i := 2) (by omega) (by omega)
  have hpos : (0 : Int) < ((items.length : Nat) : Int) := by have := List.length_pos_iff.mpr hi; omega
  unfold m__law_bent_row
  obtain ⟨x, e, _⟩ := atI_lt (xs := items) (i := d2 % ((items.length : Nat) : Int)) (Int.emod_nonneg _ (by omega)) (Int.emod_lt_of_pos _ hpos)
  refine ex_bind e0 (ex_bind rfl (ex_bind e1 (ex_bind (modO_eq (by omega)) (ex_bind e2 (ex_bind (modO_eq hpos) (ex_bind e ?_))))))
  have c1 : ∀ l u, (SM.cut row l u).length ≤ row.length := fun l u => cut_len
  split
  · exact ex_bind (catO_eq (by have := c1 none (some (d1 % ((row.length : Int) + 1))); have := c1 (some (d1 % ((row.length : Int) + 1) + 1)) none; omega)) ⟨_, rfl, by rw [List.length_append]; have := c1 none (some (d1 % ((row.length : Int) + 1))); have := c1 (some (d1 % ((row.length : Int) + 1) + 1)) none; omega⟩
  split
  · refine ex_bind (catO_eq (by have := c1 none (some (d1 % ((row.length : Int) + 1))); simp only [List.length_cons, List.length_nil]; omega)) (ex_bind (catO_eq ?_) ⟨_, rfl, ?_⟩)
    all_goals (have := c1 none (some (d1 % ((row.length : Int) + 1))); have := c1 (some (d1 % ((row.length : Int) + 1))) none; simp only [List.length_append, List.length_cons, List.length_nil]; omega)
  split
  · refine ex_bind (catO_eq (by have := c1 none (some (d1 % ((row.length : Int) + 1))); simp only [List.length_cons, List.length_nil]; omega)) (ex_bind (catO_eq ?_) ⟨_, rfl, ?_⟩)
    all_goals (have := c1 none (some (d1 % ((row.length : Int) + 1))); have := c1 (some (d1 % ((row.length : Int) + 1) + 1)) none; simp only [List.length_append, List.length_cons, List.length_nil]; omega)
  split
  · exact ex_bind rfl ⟨_, rfl, by rw [List.length_reverse]; omega⟩
  · refine ex_bind (x := SM.cut row none (some (d1 % ((row.length : Int) + 1))) ++ SM.cut row (some (max 0 (d1 % ((row.length : Int) + 1) - 1))) none) ?_ ⟨_, rfl, ?_⟩
    · rw [catO_eq]
      · rfl
      · have := c1 none (some (d1 % ((row.length : Int) + 1))); have := c1 (some (max 0 (d1 % ((row.length : Int) + 1) - 1))) none; omega
    · rw [List.length_append]; have := c1 none (some (d1 % ((row.length : Int) + 1))); have := c1 (some (max 0 (d1 % ((row.length : Int) + 1) - 1))) none; omega
theorem isn_B {x : Bool} : m__law_is (eB x) (eB x) = some true := law_is_rfl isEq_B okD_B
theorem isn_OP {x : Option (Int × Int)} : m__law_is ((eO (eP2 eI eI)) x) ((eO (eP2 eI eI)) x) = some true :=
  law_is_rfl (isEq_OP2 isEq_I isEq_I) (okD_O fun y hy => okD_P2 okD_I okD_I)
theorem isEq_P4 : IsEq (eP4 eI eI eI eI) := ⟨fun x y => by
  obtain ⟨a, b, c, d⟩ := x; obtain ⟨a', b', c', d'⟩ := y
  simp [lawIs, lawAll]⟩
theorem isn_OP4 {x : Option (Int × Int × Int × Int)} : m__law_is ((eO (eP4 eI eI eI eI)) x) ((eO (eP4 eI eI eI eI)) x) = some true :=
  law_is_rfl (isEq_O isEq_P4 (fun _ => rfl) fun _ => by simp [lawIs]) (okD_O fun y hy => by simp [okD])
theorem isn_OTP {x : Option (List (Int × Int))} (h : ∀ y, x = some y → y.length ≤ 8388608) : m__law_is ((eO (eT (eP2 eI eI))) x) ((eO (eT (eP2 eI eI))) x) = some true :=
  law_is_rfl (isEq_OT (isEq_P2 isEq_I isEq_I)) (okD_O fun y hy => okD_T (h y hy) fun _ _ => okD_P2 okD_I okD_I)
/-- a row of pairs as a function -/
theorem rows_fn {rows : List (Int × Int)} {n : Nat} {P : Nat → Int → Int → Prop} (h : ∀ t < n, ∃ l h, rows[t]? = some (l, h) ∧ P t l h) : ∃ f : Nat → Int × Int, ∀ t < n, rows[t]? = some (f t) ∧ P t (f t).1 (f t).2 := by
  refine ⟨fun t => (rows[t]?).getD (0, 0), fun t ht => ?_⟩
  obtain ⟨l, h', e, p⟩ := h t ht
  show rows[t]? = some ((rows[t]?).getD (0, 0)) ∧ P t ((rows[t]?).getD (0, 0)).1 ((rows[t]?).getD (0, 0)).2
  rw [e]; exact ⟨rfl, p⟩
theorem law_true (script : List Int) (hlen : script.length ≤ 63) : m_law script = some true := by
  unfold m_law
  refine bnd (rngO_eq (by omega)) (foldR_bndE ?_ rfl)
  intro x hx
  rw [mem_rng] at hx
  obtain ⟨c, hc⟩ := cell_ok script hx.1
  obtain ⟨dr, hdr, D0⟩ := draws_dr c (n := 50) (by omega) (by omega)
  obtain ⟨d0, e0, a0, b0⟩ := D0.at (i := 0) (by omega) (by omega)
  obtain ⟨d1, e1, a1, b1⟩ := D0.at (i := 1) (by omega) (by omega)
  obtain ⟨d20, e20, a20, b20⟩ := D0.at (i := 20) (by omega) (by omega)
  refine bnd hc (bnd hdr (bnd e0 (bnd rfl (bnd e1 (bnd rfl ?_)))))
  have hp : Pc (d0 % 4) := by unfold Pc; omega
  generalize d0 % 4 = p at *
  have hq := hp.rng
  obtain ⟨last, hlast⟩ := Int.eq_ofNat_of_zero_le (show 0 ≤ d1 % 7 by omega)
  have hl6 : last ≤ 6 := by omega
  rw [hlast]
  obtain ⟨cells, ec, hcl, hcb, hcs⟩ := hidden hp (D0.cut (i := 2) (j := 10) (by omega) (by omega) (by omega)) (last := (last : Int)) (by omega) (by omega)
  refine bnd ec ?_
  have hfree : ∃ fr : Bool, (orO (some (decide (x = (1 : Int)))) ((andO (some (decide (x = (2 : Int)))) ((atI dr (20 : Int)).bind fun t14 => (some (decide ((t14 % (2 : Int)) = (0 : Int)))))).bind fun t15 => (some t15))) = some fr ∧ (x = 0 → fr = false) := by
    rw [e20]
    by_cases h1 : x = 1
    · refine ⟨true, by rw [decide_eq_true h1]; rfl, fun z => by omega⟩
    · by_cases h2 : x = 2
      · exact ⟨_, by rw [decide_eq_false h1, decide_eq_true h2, orO_f, andO_t]; rfl, fun z => by omega⟩
      · exact ⟨false, by rw [decide_eq_false h1, decide_eq_false h2, orO_f, andO_f]; rfl, fun _ => rfl⟩
  obtain ⟨fr, hfr, hfr0⟩ := hfree
  refine bnd hfr ?_
  obtain ⟨calls0, ek, hk1, hk2, hk3⟩ := calls_ok (D0.cut (i := 10) (j := 20) (by omega) (by omega) (by omega)) (cells := cells) (n := last + 1) (by omega) (by omega) (by omega) hcb fr
  refine bnd ek ?_
  -- the calls of the turn
  have hj : ∃ cs : List (Int × Int × Int × Int), (if (decide (x = (1 : Int))) = true then ((atI calls0 (0 : Int)).bind fun one25 =>
      (catO (SM.cut calls0 none (some (3 : Int))) [(one25.1, ((one25.2.1 + one25.2.2.2) + (3 : Int)), one25.2.2.1, (2 : Int))]).bind fun calls27 => some (calls27)) else (some (calls0))) = some cs ∧ 1 ≤ cs.length ∧ cs.length ≤ 4 ∧ (∀ c ∈ cs, Ok (last + 2) c ∧ c.1 < last + 1) ∧
      (x = 0 → pairsOf p cs = []) ∧ (x = 1 → pairsOf p cs ≠ []) := by
    by_cases h1 : x = 1
    · obtain ⟨one, eo, mo, go⟩ := atI_lt (xs := calls0) (i := 0) (by omega) (by omega)
      have oo := (hk3 one mo).1
      rw [cut_take (by omega)]
      refine ⟨_, itt (decide_eq_true h1) (bnd eo (bnd (catO_eq (by rw [List.length_take, List.length_singleton]; omega)) rfl)), ?_, ?_, fun c hcm => ?_, fun z => by omega, fun _ hz => ?_⟩
      · rw [List.length_append, List.length_singleton]; omega
      · rw [List.length_append, List.length_take, List.length_singleton]
        show min 3 _ + 1 ≤ 4
        omega
      · rcases List.mem_append.mp hcm with h | h
        · have := (hk3 c (List.mem_of_mem_take h)).1
          unfold Ok; omega
        · rw [List.mem_singleton.mp h]
          show Ok (last + 2) (one.1, one.2.1 + one.2.2.2 + 3, one.2.2.1, 2) ∧ one.1 < last + 1
          unfold Ok
          refine ⟨?_, by omega⟩
          show 0 ≤ one.1 ∧ one.1 < ((last + 2 : Nat) : Int) ∧ (0 : Int) ≤ 2 ∧ (2 : Int) ≤ 2 ∧ -1000 ≤ one.2.1 + one.2.2.2 + 3 ∧ one.2.1 + one.2.2.2 + 3 ≤ 1000 ∧ -1000 ≤ one.2.2.1 ∧ one.2.2.1 ≤ 1000
          omega
      · rw [pairs_nil] at hz
        have hl3 : ((calls0.take ((3 : Int).toNat)).length) = min 3 calls0.length := by rw [List.length_take]; rfl
        have g0 : (calls0.take ((3 : Int).toNat) ++ [(one.1, ((one.2.1 + one.2.2.2) + (3 : Int)), one.2.2.1, (2 : Int))])[0]? = some one := by
          rw [List.getElem?_append_left (by omega), List.getElem?_take_of_lt (by decide)]
          exact go
        have g1 : (calls0.take ((3 : Int).toNat) ++ [(one.1, ((one.2.1 + one.2.2.2) + (3 : Int)), one.2.2.1, (2 : Int))])[(calls0.take ((3 : Int).toNat)).length]? = some (one.1, ((one.2.1 + one.2.2.2) + (3 : Int)), one.2.2.1, (2 : Int)) := by
          rw [List.getElem?_append_right (Nat.le_refl _), Nat.sub_self]; rfl
        have := hz 0 _ (by omega) _ _ g0 g1
        unfold qr at this
        rw [Bool.or_eq_false_iff, decide_eq_false_iff_not] at this
        have t1 := this.1
        have t2 : ¬ (one.2.2.2 + 2 + p * ((one.1 - one.1).natAbs : Int) < ((one.2.1 - (one.2.1 + one.2.2.2 + 3)).natAbs : Int)) := t1
        rw [Int.sub_self] at t2
        simp only [Int.natAbs_zero, Int.ofNat_zero, Int.mul_zero] at t2
        omega
    · refine ⟨calls0, itf (decide_eq_false h1) rfl, hk1, hk2, fun c hcm => ?_, fun z => ?_, fun z => absurd z h1⟩
      · have := (hk3 c hcm).1
        unfold Ok; omega
      · rw [pairs_nil]
        intro i j hij a b ha hb
        obtain ⟨oa, fa⟩ := hk3 a (List.mem_of_getElem? ha)
        obtain ⟨ob, fb⟩ := hk3 b (List.mem_of_getElem? hb)
        obtain ⟨ca, ga, na1, na2⟩ := fa (hfr0 z)
        obtain ⟨cb, gb, nb1, nb2⟩ := fb (hfr0 z)
        unfold qr
        rw [Bool.or_eq_false_iff, decide_eq_false_iff_not, decide_eq_false_iff_not]
        have hd : ((ca.1 - cb.1).natAbs : Int) ≤ p * ((a.1 - b.1).natAbs : Int) ∧ ((ca.2 - cb.2).natAbs : Int) ≤ p * ((a.1 - b.1).natAbs : Int) := by
          rcases Nat.le_total a.1.toNat b.1.toNat with h | h
          · obtain ⟨k, hk⟩ := Nat.exists_eq_add_of_le h
            rw [hk] at gb
            have := far hp hcs a.1.toNat k ca cb ga gb
            rw [show ((a.1 - b.1).natAbs : Int) = (k : Int) by omega]
            exact this
          · obtain ⟨k, hk⟩ := Nat.exists_eq_add_of_le h
            rw [hk] at ga
            have := far hp hcs b.1.toNat k cb ca gb ga
            rw [show ((a.1 - b.1).natAbs : Int) = (k : Int) by omega]
            omega
        omega
  obtain ⟨cs, hj1, hj2, hj3, hj4, hj5, hj6⟩ := hj
  have hne : cs ≠ [] := fun z => by rw [z] at hj2; simp at hj2
  have hok : ∀ c ∈ cs, Ok (last + 2) c := fun c hc => (hj4 c hc).1
  refine bnd hj1 ?_
  have en : ((last : Int) + 2) = ((last + 2 : Nat) : Int) := by omega
  rw [en]
  obtain ⟨rows, er, hrl, hr⟩ := side_rows hp (n := last + 2) (by omega) (by omega) hne hok 1 v1 (fun _ => rfl) fun c hc => by have := hok c hc; unfold Ok at this; unfold v1; omega
  obtain ⟨cols, eo, hol, ho⟩ := side_rows hp (n := last + 2) (by omega) (by omega) hne hok 2 v2 (fun _ => rfl) fun c hc => by have := hok c hc; unfold Ok at this; unfold v2; omega
  obtain ⟨f1, hf1⟩ := rows_fn hr
  obtain ⟨f2, hf2⟩ := rows_fn ho
  refine bnd er (bnd eo (bnd (law_pairs hp (by omega)) (bnd (catO_eq (by omega)) (bnd rfl ?_))))
  have hheard : (List.all (List.map (fun (x35 : (Int × Int)) => (decide (x35.1 ≤ x35.2))) (rows ++ cols)) id) = decide (pairsOf p cs = []) := by
    rw [Bool.eq_iff_iff, decide_eq_true_iff, ← heard_iff hp hok (fun t ht => (hf1 t ht).2.2) (fun t ht => (hf2 t ht).2.2), List.all_eq_true]
    constructor
    · intro h t ht
      have m1 := List.mem_of_getElem? (hf1 t ht).1
      have m2 := List.mem_of_getElem? (hf2 t ht).1
      exact ⟨of_decide_eq_true (h _ (List.mem_map.mpr ⟨_, List.mem_append_left _ m1, rfl⟩)), of_decide_eq_true (h _ (List.mem_map.mpr ⟨_, List.mem_append_right _ m2, rfl⟩))⟩
    · intro h y hy
      obtain ⟨z, hz, rfl⟩ := List.mem_map.mp hy
      show decide (z.1 ≤ z.2) = true
      rw [decide_eq_true_iff]
      rcases List.mem_append.mp hz with hz | hz
      · obtain ⟨t, ht⟩ := List.mem_iff_getElem?.mp hz
        have hl := (List.getElem?_eq_some_iff.mp ht).1
        have := (hf1 t (by omega)).1
        rw [ht] at this
        obtain rfl := Option.some.inj this
        exact (h t (by omega)).1
      · obtain ⟨t, ht⟩ := List.mem_iff_getElem?.mp hz
        have hl := (List.getElem?_eq_some_iff.mp ht).1
        have := (hf2 t (by omega)).1
        rw [ht] at this
        obtain rfl := Option.some.inj this
        exact (h t (by omega)).2
  rw [hheard]
  have hlen0 : ((List.length (pairsOf p cs) : Nat) : Int) = 0 ↔ pairsOf p cs = [] := by rw [← List.length_eq_zero_iff]; omega
  have hcond : ((!(decide (decide (pairsOf p cs = []) = (decide (((List.length (pairsOf p cs) : Nat) : Int) = (0 : Int)))))) || (((decide (x = (0 : Int))) && (!decide (pairsOf p cs = []))) || ((decide (x = (1 : Int))) && decide (pairsOf p cs = [])))) = false := by
    have e9 : decide (((List.length (pairsOf p cs) : Nat) : Int) = (0 : Int)) = decide (pairsOf p cs = []) := by rw [decide_eq_decide]; exact hlen0
    rw [e9]
    by_cases h : pairsOf p cs = []
    · have : x ≠ 1 := fun z => hj6 z h
      rw [decide_eq_true h, decide_eq_false this]; simp
    · have : x ≠ 0 := fun z => h (hj5 z)
      rw [decide_eq_false h, decide_eq_false this]; simp
  refine itf hcond (bnd (told_quarrel hp (by omega)) ?_)
  have hwb : ∀ t : Nat, t < last + 2 → m_whereabouts cs p (t : Int) = some (if pairsOf p cs = [] then some ((f1 t).1, (f1 t).2, (f2 t).1, (f2 t).2) else none) := fun t ht => by
    unfold m_whereabouts
    refine bnd (told_quarrel hp (by omega)) ?_
    cases hpp : pairsOf p cs with
    | cons y ys => exact itt rfl (by rw [if_neg (by simp)])
    | nil => exact itf rfl (bnd (hf1 t ht).2.1 (bnd (hf2 t ht).2.1 (by rw [if_pos rfl])))
  have hpick : (if decide (pairsOf p cs = []) = true then some none else ((atI (pairsOf p cs) (0 : Int)).bind fun t38 => (some (some t38)))) = some (pairsOf p cs).head? := by
    cases hpp : pairsOf p cs with
    | nil => exact itt (decide_eq_true rfl) rfl
    | cons y ys => exact itf (decide_eq_false (by simp)) (bnd (atI_n (xs := y :: ys) 0) rfl)
  refine bnd hpick (bnd isn_OP (itf rfl (bnd (rngO_eq (by omega)) (foldR_bndE ?_ ?_))))
  · intro y hy
    rw [mem_rng] at hy
    obtain ⟨t, rfl⟩ := Int.eq_ofNat_of_zero_le hy.1
    have ht : t < last + 2 := by omega
    refine bnd (hwb t ht) ?_
    have er1 : atI rows (t : Int) = some (f1 t) := by rw [atI_n]; exact (hf1 t ht).1
    have er2 : atI cols (t : Int) = some (f2 t) := by rw [atI_n]; exact (hf2 t ht).1
    by_cases h : pairsOf p cs = []
    · rw [if_pos h]
      refine bnd (itt (decide_eq_true h) (bnd er1 (bnd er2 rfl))) (bnd isn_OP4 (itf rfl rfl))
    · rw [if_neg h]
      refine bnd (itf (decide_eq_false h) rfl) (bnd isn_OP4 (itf rfl rfl))
  · have lows : compM (fun (x50 : Int) => ((atI rows x50).bind fun t51 => ((atI cols x50).bind fun t52 => (some (some (t51.1, t52.1)))))) (rng 0 ((last : Int) + 1)) = some ((rng 0 ((last : Int) + 1)).map fun t => ((f1 t.toNat).1, (f2 t.toNat).1)) :=
      compM_get' fun t ht => by
        rw [mem_rng] at ht
        obtain ⟨k, rfl⟩ := Int.eq_ofNat_of_zero_le ht.1
        refine bnd (x := f1 k) (by rw [atI_n]; exact (hf1 k (by omega)).1) (bnd (x := f2 k) (by rw [atI_n]; exact (hf2 k (by omega)).1) rfl)
    have highs : compM (fun (x50 : Int) => ((atI rows x50).bind fun t51 => ((atI cols x50).bind fun t52 => (some (some (t51.2, t52.2)))))) (rng 0 ((last : Int) + 1)) = some ((rng 0 ((last : Int) + 1)).map fun t => ((f1 t.toNat).2, (f2 t.toNat).2)) :=
      compM_get' fun t ht => by
        rw [mem_rng] at ht
        obtain ⟨k, rfl⟩ := Int.eq_ofNat_of_zero_le ht.1
        refine bnd (x := f1 k) (by rw [atI_n]; exact (hf1 k (by omega)).1) (bnd (x := f2 k) (by rw [atI_n]; exact (hf2 k (by omega)).1) rfl)
    have hLl : ((rng 0 ((last : Int) + 1)).map fun t => ((f1 t.toNat).1, (f2 t.toNat).1)).length = last + 1 := by rw [List.length_map, rng_len]; omega
    have hHl : ((rng 0 ((last : Int) + 1)).map fun t => ((f1 t.toNat).2, (f2 t.toNat).2)).length = last + 1 := by rw [List.length_map, rng_len]; omega
    have hwalk : m_told_walk cs p (last : Int) = some (if pairsOf p cs = [] then some ((rng 0 ((last : Int) + 1)).map fun t => ((f1 t.toNat).1, (f2 t.toNat).1)) else none) := by
      unfold m_told_walk
      refine bnd (told_quarrel hp (by omega)) ?_
      cases hpp : pairsOf p cs with
      | cons y ys => exact itt rfl (by rw [if_neg (by simp)])
      | nil =>
        refine itf rfl (bnd rfl (bnd (rngO_eq (by omega)) (fold_bnd (fun q t => t = q.map fun t => ((f1 t.toNat).1, (f2 t.toNat).1)) rfl ?_ fun t ht => by rw [ht, if_pos rfl])))
        rintro q y r t e rfl
        have hy : y ∈ rng 0 ((last : Int) + 1) := by rw [e]; simp
        rw [mem_rng] at hy
        have hql : q.length ≤ last + 1 := by
          have := congrArg List.length e
          rw [rng_len, List.length_append] at this
          omega
        obtain ⟨k, rfl⟩ := Int.eq_ofNat_of_zero_le hy.1
        have hw := hwb k (by omega)
        rw [hpp, if_pos rfl] at hw
        refine ex_bind hw (ex_bind rfl (ex_bind (appO_eq (by rw [List.length_map]; omega)) ⟨_, rfl, ?_⟩))
        rw [List.map_append]; rfl
    generalize hL : (rng 0 ((last : Int) + 1)).map (fun t => ((f1 t.toNat).1, (f2 t.toNat).1)) = L at *
    generalize hH : (rng 0 ((last : Int) + 1)).map (fun t => ((f1 t.toNat).2, (f2 t.toNat).2)) = Hh at *
    refine bnd (rngO_eq (by omega)) ?_
    refine bnd lows ?_
    refine bnd (rngO_eq (by omega)) ?_
    refine bnd highs ?_
    refine bnd hwalk ?_
    have e7 : (if decide (pairsOf p cs = []) = true then some L else none) = (if pairsOf p cs = [] then some L else none) := by
      by_cases h : pairsOf p cs = []
      · rw [if_pos h, if_pos (decide_eq_true h)]
      · rw [if_neg h, if_neg (by rw [decide_eq_true_iff]; exact h)]
    rw [e7]
    refine bnd (isn_OTP fun y hy => ?_) (itf rfl ?_)
    · split at hy
      · rw [← Option.some.inj hy]; omega
      · cases hy
    have hLne : L ≠ [] := fun z => by rw [z] at hLl; simp at hLl
    have hHne : Hh ≠ [] := fun z => by rw [z] at hHl; simp at hHl
    have hCne : cells ≠ [] := fun z => by rw [z] at hcl; simp at hcl; omega
    obtain ⟨l0, el0, _⟩ := atI_lt (xs := L) (i := 0) (by omega) (by omega)
    obtain ⟨hh1, eh1, _⟩ := atI_last1 hHne
    obtain ⟨l1, el1, _⟩ := atI_last1 hLne
    obtain ⟨c0, ec0, _⟩ := atI_lt (xs := cells) (i := 0) (by omega) (by omega)
    obtain ⟨c1, ec1, _⟩ := atI_last1 hCne
    refine bnd el0 (bnd eh1 (bnd el1 (bnd el1 (bnd rfl (bnd ec0 (bnd ec0 (bnd ec1 (bnd (catO_eq (by simp only [List.length_cons, List.length_nil]; omega)) (bnd rfl (bnd (rngO_eq (by omega)) ?_))))))))))
    refine fold_rngI (fun k t => t.length = 3 + k ∧ (∀ w ∈ t, w.length ≤ 100 * 3 ^ k) ∧ ∀ i : Nat, i < 3 → ∃ w, t[i]? = some w ∧ w.length ≤ 100) (by decide) ?_ ?_ ?_
    · refine ⟨rfl, ?_, ?_⟩
      · intro w hw
        simp only [List.mem_cons, List.not_mem_nil, or_false] at hw
        rcases hw with rfl | rfl | rfl <;> simp <;> omega
      · intro i hi
        rcases i with _ | _ | _ | i
        · exact ⟨L, rfl, by omega⟩
        · exact ⟨Hh, rfl, by omega⟩
        · exact ⟨cells, rfl, by omega⟩
        · omega
    · rintro k t hk ⟨h1, h2, h3⟩
      obtain ⟨u, eu, au, bu⟩ := D0.at (i := 21 + k) (by omega) (by omega)
      obtain ⟨w, ew, wl⟩ := h3 (u % 3).toNat (by omega)
      have ew' : atI t (u % 3) = some w := by rw [atI_pos (by omega)]; exact ew
      obtain ⟨r, er', rl⟩ := bent_row (row := w) (by omega) (D0.cut (i := 27 + 3 * (k : Int)) (j := 30 + 3 * (k : Int)) (by omega) (by omega) (by omega)) (by omega) (items := [((100000000000000000000 : Int), (0 : Int)), ((0 : Int), ((0 : Int) - (100000000000000000000 : Int))), l0, hh1, ((l1.1 + (1 : Int)), l1.2)] ++ [(c0.1, ((c0.2 - p) - (1 : Int))), c1]) (by simp)
      refine ex_bind eu (ex_bind ew' (ex_bind er' (ex_bind (appO_eq (by omega)) ⟨_, rfl, by rw [List.length_append, h1]; rfl, ?_, ?_⟩)))
      · intro z hz
        have h9 : 3 ^ (k + 1) = 3 ^ k * 3 := Nat.pow_succ ..
        have h10 : 1 ≤ 3 ^ k := Nat.one_le_pow _ _ (by decide)
        rcases List.mem_append.mp hz with hz | hz
        · have := h2 z hz; omega
        · rw [List.mem_singleton.mp hz]; omega
      · intro i hi
        obtain ⟨w', e', l'⟩ := h3 i hi
        exact ⟨w', by rw [List.getElem?_append_left (by omega)]; exact e', l'⟩
    · rintro t _
      refine foldR_bndE ?_ rfl
      intro w _
      obtain ⟨b, e1, e2⟩ := heard_eq (p := p) (last := (last : Int)) (by omega) (by omega) (cs := cs) (fun c hc => by have := (hj4 c hc); have := this.1; unfold Ok at this; omega) w
      exact bnd e1 (bnd e2 (bnd isn_B (itf rfl rfl)))
end K71

set_option autoImplicit false
set_option Elab.async false
set_option linter.all false
set_option maxRecDepth 100000
set_option maxHeartbeats 4000000
namespace K71
open PySem PySem.Spec PyProof.Rows L2 SM
def topS (i : Nat) : Stmt := PySem.Challenge.pw_slopeward_k71_whole_walks_that_calls_hea.main.body.getD i (.Pass ⟨0, 0, 0, 0⟩)
abbrev s_do_quarrel : Stmt := topS 1
theorem sc_do_quarrel : FnScope ["one", "other", "pace", "room"] ["one", "other", "pace"] (defScope s_do_quarrel) := ⟨rfl, rfl, rfl, by decide +kernel, rfl, by decide +kernel, by decide +kernel⟩
theorem nd_do_quarrel : (["one", "other", "pace", "room"] : List Str).Nodup := by decide +kernel
abbrev s_told_call_quarrel : Stmt := topS 2
theorem sc_told_call_quarrel : FnScope ["calls", "pace", "i", "j"] ["calls", "pace"] (defScope s_told_call_quarrel) := ⟨rfl, rfl, rfl, by decide +kernel, rfl, by decide +kernel, by decide +kernel⟩
theorem nd_told_call_quarrel : (["calls", "pace", "i", "j"] : List Str).Nodup := by decide +kernel
abbrev s_side_bounds : Stmt := topS 3
theorem sc_side_bounds : FnScope ["calls", "pace", "time", "side", "rooms", "call", "middle", "room"] ["calls", "pace", "time", "side"] (defScope s_side_bounds) := ⟨rfl, rfl, rfl, by decide +kernel, rfl, by decide +kernel, by decide +kernel⟩
theorem nd_side_bounds : (["calls", "pace", "time", "side", "rooms", "call", "middle", "room"] : List Str).Nodup := by decide +kernel
abbrev s_whereabouts : Stmt := topS 4
theorem sc_whereabouts : FnScope ["calls", "pace", "time"] ["calls", "pace", "time"] (defScope s_whereabouts) := ⟨rfl, rfl, rfl, by decide +kernel, rfl, by decide +kernel, by decide +kernel⟩
theorem nd_whereabouts : (["calls", "pace", "time"] : List Str).Nodup := by decide +kernel
abbrev s_told_walk : Stmt := topS 5
theorem sc_told_walk : FnScope ["calls", "pace", "last", "found", "time", "low_row", "_", "low_column"] ["calls", "pace", "last"] (defScope s_told_walk) := ⟨rfl, rfl, rfl, by decide +kernel, rfl, by decide +kernel, by decide +kernel⟩
theorem nd_told_walk : (["calls", "pace", "last", "found", "time", "low_row", "_", "low_column"] : List Str).Nodup := by decide +kernel
abbrev s_are_near : Stmt := topS 6
theorem sc_are_near : FnScope ["one", "other", "room"] ["one", "other", "room"] (defScope s_are_near) := ⟨rfl, rfl, rfl, by decide +kernel, rfl, by decide +kernel, by decide +kernel⟩
theorem nd_are_near : (["one", "other", "room"] : List Str).Nodup := by decide +kernel
abbrev s_is_heard_walk : Stmt := topS 7
theorem sc_is_heard_walk : FnScope ["calls", "pace", "last", "walk", "time", "row", "column", "d"] ["calls", "pace", "last", "walk"] (defScope s_is_heard_walk) := ⟨rfl, rfl, rfl, by decide +kernel, rfl, by decide +kernel, by decide +kernel⟩
theorem nd_is_heard_walk : (["calls", "pace", "last", "walk", "time", "row", "column", "d"] : List Str).Nodup := by decide +kernel
abbrev s__law_cell : Stmt := topS 9
theorem sc__law_cell : FnScope ["script", "k"] ["script", "k"] (defScope s__law_cell) := ⟨rfl, rfl, rfl, by decide +kernel, rfl, by decide +kernel, by decide +kernel⟩
theorem nd__law_cell : (["script", "k"] : List Str).Nodup := by decide +kernel
abbrev s__law_draws : Stmt := topS 10
theorem sc__law_draws : FnScope ["cell", "count", "rest", "digits", "seed", "draws", "k", "mixed"] ["cell", "count"] (defScope s__law_draws) := ⟨rfl, rfl, rfl, by decide +kernel, rfl, by decide +kernel, by decide +kernel⟩
theorem nd__law_draws : (["cell", "count", "rest", "digits", "seed", "draws", "k", "mixed"] : List Str).Nodup := by decide +kernel
abbrev s__law_is_integer : Stmt := topS 11
theorem sc__law_is_integer : FnScope ["value"] ["value"] (defScope s__law_is_integer) := ⟨rfl, rfl, rfl, by decide +kernel, rfl, by decide +kernel, by decide +kernel⟩
theorem nd__law_is_integer : (["value"] : List Str).Nodup := by decide +kernel
abbrev s__law_is : Stmt := topS 12
theorem sc__law_is : FnScope ["value", "due", "at"] ["value", "due"] (defScope s__law_is) := ⟨rfl, rfl, rfl, by decide +kernel, rfl, by decide +kernel, by decide +kernel⟩
theorem nd__law_is : (["value", "due", "at"] : List Str).Nodup := by decide +kernel
abbrev s__law_bent_row : Stmt := topS 13
theorem sc__law_bent_row : FnScope ["row", "draws", "items", "way", "at", "odd"] ["row", "draws", "items"] (defScope s__law_bent_row) := ⟨rfl, rfl, rfl, by decide +kernel, rfl, by decide +kernel, by decide +kernel⟩
theorem nd__law_bent_row : (["row", "draws", "items", "way", "at", "odd"] : List Str).Nodup := by decide +kernel
abbrev s__law_hidden : Stmt := topS 14
theorem sc__law_hidden : FnScope ["draws", "pace", "last", "cells", "at", "one"] ["draws", "pace", "last"] (defScope s__law_hidden) := ⟨rfl, rfl, rfl, by decide +kernel, rfl, by decide +kernel, by decide +kernel⟩
theorem nd__law_hidden : (["draws", "pace", "last", "cells", "at", "one"] : List Str).Nodup := by decide +kernel
abbrev s__law_calls : Stmt := topS 15
theorem sc__law_calls : FnScope ["draws", "cells", "free", "calls", "at", "one", "d", "time", "own"] ["draws", "cells", "free"] (defScope s__law_calls) := ⟨rfl, rfl, rfl, by decide +kernel, rfl, by decide +kernel, by decide +kernel⟩
theorem nd__law_calls : (["draws", "cells", "free", "calls", "at", "one", "d", "time", "own"] : List Str).Nodup := by decide +kernel
abbrev s__law_side : Stmt := topS 16
theorem sc__law_side : FnScope ["calls", "pace", "size", "side", "low", "high", "call", "at", "turn"] ["calls", "pace", "size", "side"] (defScope s__law_side) := ⟨rfl, rfl, rfl, by decide +kernel, rfl, by decide +kernel, by decide +kernel⟩
theorem nd__law_side : (["calls", "pace", "size", "side", "low", "high", "call", "at", "turn"] : List Str).Nodup := by decide +kernel
abbrev s__law_quarrel : Stmt := topS 17
theorem sc__law_quarrel : FnScope ["calls", "pace", "j", "i", "room"] ["calls", "pace"] (defScope s__law_quarrel) := ⟨rfl, rfl, rfl, by decide +kernel, rfl, by decide +kernel, by decide +kernel⟩
theorem nd__law_quarrel : (["calls", "pace", "j", "i", "room"] : List Str).Nodup := by decide +kernel
abbrev s__law_pairs : Stmt := topS 18
theorem sc__law_pairs : FnScope ["calls", "pace", "pairs", "i", "j"] ["calls", "pace"] (defScope s__law_pairs) := ⟨rfl, rfl, rfl, by decide +kernel, rfl, by decide +kernel, by decide +kernel⟩
theorem nd__law_pairs : (["calls", "pace", "pairs", "i", "j"] : List Str).Nodup := by decide +kernel
abbrev s__law_near : Stmt := topS 19
theorem sc__law_near : FnScope ["one", "other", "most"] ["one", "other", "most"] (defScope s__law_near) := ⟨rfl, rfl, rfl, by decide +kernel, rfl, by decide +kernel, by decide +kernel⟩
theorem nd__law_near : (["one", "other", "most"] : List Str).Nodup := by decide +kernel
abbrev s__law_heard : Stmt := topS 20
theorem sc__law_heard : FnScope ["calls", "pace", "last", "walk", "call", "at"] ["calls", "pace", "last", "walk"] (defScope s__law_heard) := ⟨rfl, rfl, rfl, by decide +kernel, rfl, by decide +kernel, by decide +kernel⟩
theorem nd__law_heard : (["calls", "pace", "last", "walk", "call", "at"] : List Str).Nodup := by decide +kernel
abbrev s_law : Stmt := topS 21
theorem sc_law : FnScope ["script", "turn", "draws", "pace", "last", "cells", "calls", "rows", "columns", "pairs", "heard", "time", "lows", "highs", "odd", "asked", "at", "walk", "one", "base"] ["script"] (defScope s_law) := ⟨rfl, rfl, rfl, by decide +kernel, rfl, by decide +kernel, by decide +kernel⟩
theorem nd_law : (["script", "turn", "draws", "pace", "last", "cells", "calls", "rows", "columns", "pairs", "heard", "time", "lows", "highs", "odd", "asked", "at", "walk", "one", "base"] : List Str).Nodup := by decide +kernel
structure Gl (K : PySem.W.Frag) (mg : Str → Option Value) (base : Heap) (tabs : List Addr) : Prop where
  b_abs : mg "abs" = none
  b_all : mg "all" = none
  b_bool : mg "bool" = none
  b_int : mg "int" = none
  b_isinstance : mg "isinstance" = none
  b_len : mg "len" = none
  b_max : mg "max" = none
  b_min : mg "min" = none
  b_range : mg "range" = none
  b_str : mg "str" = none
  b_tuple : mg "tuple" = none
  d_do_quarrel : GDef K mg "do_quarrel" s_do_quarrel ["one", "other", "pace"]
  d_told_call_quarrel : GDef K mg "told_call_quarrel" s_told_call_quarrel ["calls", "pace"]
  d_side_bounds : GDef K mg "side_bounds" s_side_bounds ["calls", "pace", "time", "side"]
  d_whereabouts : GDef K mg "whereabouts" s_whereabouts ["calls", "pace", "time"]
  d_told_walk : GDef K mg "told_walk" s_told_walk ["calls", "pace", "last"]
  d_are_near : GDef K mg "are_near" s_are_near ["one", "other", "room"]
  d_is_heard_walk : GDefT K mg base tabs "is_heard_walk" s_is_heard_walk ["calls", "pace", "last", "walk"]
  d__law_cell : GDef K mg "_law_cell" s__law_cell ["script", "k"]
  d__law_draws : GDef K mg "_law_draws" s__law_draws ["cell", "count"]
  d__law_is_integer : GDef K mg "_law_is_integer" s__law_is_integer ["value"]
  d__law_is : GDef K mg "_law_is" s__law_is ["value", "due"]
  d__law_bent_row : GDef K mg "_law_bent_row" s__law_bent_row ["row", "draws", "items"]
  d__law_hidden : GDef K mg "_law_hidden" s__law_hidden ["draws", "pace", "last"]
  d__law_calls : GDef K mg "_law_calls" s__law_calls ["draws", "cells", "free"]
  d__law_side : GDef K mg "_law_side" s__law_side ["calls", "pace", "size", "side"]
  d__law_quarrel : GDef K mg "_law_quarrel" s__law_quarrel ["calls", "pace"]
  d__law_pairs : GDef K mg "_law_pairs" s__law_pairs ["calls", "pace"]
  d__law_near : GDef K mg "_law_near" s__law_near ["one", "other", "most"]
  d__law_heard : GDef K mg "_law_heard" s__law_heard ["calls", "pace", "last", "walk"]
  d_law : GDef K mg "law" s_law ["script"]
section
variable {P : Program} {w : World} {K : PySem.W.Frag} {mg : Str → Option Value} {base : Heap} {tabs : List Addr}
def R_do_quarrel (ds : List PyData) (r : PyData) : Prop := ∃ (one1 : (Int × Int × Int × Int)), ∃ (other2 : (Int × Int × Int × Int)), ∃ (pace3 : Int), ∃ y, ds = [(eP4 eI eI eI eI) one1, (eP4 eI eI eI eI) other2, eI pace3] ∧ m_do_quarrel one1 other2 pace3 = some y ∧ r = eB y
theorem j_do_quarrel (C : Gl K mg base tabs) (cdv : Value) (B F0 : Hp) (one1 : (Int × Int × Int × Int)) (other2 : (Int × Int × Int × Int)) (pace3 : Int) : J (Stat.of P w K mg base ["one", "other", "pace", "room"] (defScope s_do_quarrel) 0 tabs cdv B F0) [.sh ((eP4 eI eI eI eI) one1), .sh ((eP4 eI eI eI eI) other2), .sh (eI pace3), .un] (defBody s_do_quarrel) (pT eB) (m_do_quarrel one1 other2 pace3) := by
  unfold m_do_quarrel
  refine j_bind fun t4 ht4 => ?_
  refine j_bind fun room5 hroom5 => ?_
  refine j_set (i := 3) ⟨nd_do_quarrel, rfl, .inl rfl, .inr rfl⟩ (EJ.of (e_add (e_add (e_ixC (i := 3) (e_var (i := 0) rfl (.inl rfl) rfl) rfl) (e_ixC (i := 3) (e_var (i := 1) rfl (.inl rfl) rfl) rfl)) (e_mulO (e_var (i := 2) rfl (.inl rfl) rfl) (e_abs rfl C.b_abs (e_sub (e_ixC (i := 0) (e_var (i := 0) rfl (.inl rfl) rfl) rfl) (e_ixC (i := 0) (e_var (i := 1) rfl (.inl rfl) rfl) rfl)) (fun _ _ => rfl)) ht4)) (congrArg eI (Option.some.inj hroom5))) (fun _ _ => rfl) ?_
  exact j_ret (e_or (e_cmp (c_gt (e_abs rfl C.b_abs (e_sub (e_ixC (i := 1) (e_var (i := 0) rfl (.inl rfl) rfl) rfl) (e_ixC (i := 1) (e_var (i := 1) rfl (.inl rfl) rfl) rfl)) (fun _ _ => rfl)) (e_var (i := 3) rfl (.inl rfl) rfl)) (nomark _)) fun _ => (e_one (e_cmp (c_gt (e_abs rfl C.b_abs (e_sub (e_ixC (i := 2) (e_var (i := 0) rfl (.inl rfl) rfl) rfl) (e_ixC (i := 2) (e_var (i := 1) rfl (.inl rfl) rfl) rfl)) (fun _ _ => rfl)) (e_var (i := 3) rfl (.inl rfl) rfl)) (nomark _)))) rfl
theorem ok_do_quarrel (C : Gl K mg base tabs) : Known P w K mg base tabs 1 "do_quarrel" 3 R_do_quarrel := known_of (k := 0) C.d_do_quarrel sc_do_quarrel fun cdv B F0 ds r _ hr => by
  obtain ⟨one1, other2, pace3, y, rfl, hy, rfl⟩ := hr
  exact (j_do_quarrel C cdv B F0 one1 other2 pace3).body hy
def R_told_call_quarrel (ds : List PyData) (r : PyData) : Prop := ∃ (calls1 : (List (Int × Int × Int × Int))), ∃ (pace2 : Int), ∃ y, ds = [(eT (eP4 eI eI eI eI)) calls1, eI pace2] ∧ m_told_call_quarrel calls1 pace2 = some y ∧ r = (eO (eP2 eI eI)) y
theorem j_told_call_quarrel (C : Gl K mg base tabs) (cdv : Value) (B F0 : Hp) (calls1 : (List (Int × Int × Int × Int))) (pace2 : Int) : J (Stat.of P w K mg base ["calls", "pace", "i", "j"] (defScope s_told_call_quarrel) 1 tabs cdv B F0) [.sh ((eT (eP4 eI eI eI eI)) calls1), .sh (eI pace2), .un, .un] (defBody s_told_call_quarrel) (pT (eO (eP2 eI eI))) (m_told_call_quarrel calls1 pace2) := by
  unfold m_told_call_quarrel
  refine j_bind fun r3 hr3 => ?_
  refine j_to (γ2 := [.sh ((eT (eP4 eI eI eI eI)) calls1), .sh (eI pace2), .un, .un]) rfl ?_
  refine j_forR (enc := eI) (xs := r3) (encR := (eO (eP2 eI eI))) (γ0 := fun (s4 : Unit) => [.sh ((eT (eP4 eI eI eI eI)) calls1), .sh (eI pace2), .un, .un]) (t0 := ()) (i_range1O rfl C.b_range (e_lenT (enc := (eP4 eI eI eI eI)) (xs := calls1) rfl C.b_len (EJ.qt (e_var (i := 0) rfl (.inl rfl) rfl)) (fun _ _ => rfl)) (fun _ _ => rfl) hr3) (⟨rfl, ⟨rfl, trivial⟩⟩) (fun s4 x5 hx5 => ⟨_, _, (g_name (i := 2) ⟨nd_told_call_quarrel, rfl, .inl rfl, .inr rfl⟩), ?_⟩) (fun _ => rfl) (fun s4 => ?_) (fun _ _ => rfl)
  · refine j_bind fun r6 hr6 => ?_
    refine j_to (γ2 := [.sh ((eT (eP4 eI eI eI eI)) calls1), .sh (eI pace2), .sh (eI x5), .un]) rfl ?_
    refine j_forR (enc := eI) (xs := r6) (encR := (eO (eP2 eI eI))) (γ0 := fun (s7 : Unit) => [.sh ((eT (eP4 eI eI eI eI)) calls1), .sh (eI pace2), .sh (eI x5), .un]) (t0 := ()) (i_range2O rfl C.b_range (e_add (e_var (i := 2) rfl (.inl rfl) rfl) e_int) (e_lenT (enc := (eP4 eI eI eI eI)) (xs := calls1) rfl C.b_len (EJ.qt (e_var (i := 0) rfl (.inl rfl) rfl)) (fun _ _ => rfl)) (fun _ _ => rfl) (fun _ _ => rfl) hr6) (⟨rfl, ⟨rfl, ⟨rfl, trivial⟩⟩⟩) (fun s7 x8 hx8 => ⟨_, _, (g_name (i := 3) ⟨nd_told_call_quarrel, rfl, .inl rfl, .inr rfl⟩), ?_⟩) (fun _ => rfl) (fun s7 => ?_) (fun _ _ => rfl)
    · refine j_bind fun t9 ht9 => ?_
      refine j_bind fun t10 ht10 => ?_
      refine j_bind fun t11 ht11 => ?_
      refine j_ifR (t_val (EJ.of (d' := eB t11) (e_callK (ok_do_quarrel C) (Nat.le_of_ble_eq_true rfl) rfl (a_cons (e_ixT (enc := (eP4 eI eI eI eI)) (xs := calls1) (EJ.qt (e_var (i := 0) rfl (.inl rfl) rfl)) (e_var (i := 2) rfl (.inl rfl) rfl) ht9 (fun _ _ => rfl)) (a_cons (e_ixT (enc := (eP4 eI eI eI eI)) (xs := calls1) (EJ.qt (e_var (i := 0) rfl (.inl rfl) rfl)) (e_var (i := 3) rfl (.inl rfl) rfl) ht10 (fun _ _ => rfl)) (a_cons (e_var (i := 1) rfl (.inl rfl) rfl) a_nil (fun _ _ => rfl)) (fun _ _ => rfl)) (fun _ _ => rfl)) ⟨t9, t10, pace2, t11, rfl, ht11, rfl⟩ rfl (fun _ _ => rfl) (fun _ => rfl) (by decide)) rfl) (fun _ _ => rfl)) (fun hc => ?_) (fun hc => ?_)
      · exact j_ret (EJ.into (enc := (eP2 eI eI)) (EJ.of (d' := ((eP2 eI eI) (x5, x8))) (e_tup (a_cons (e_var (i := 2) rfl (.inl rfl) rfl) (a_cons (e_var (i := 3) rfl (.inl rfl) rfl) a_nil (fun _ _ => rfl)) (fun _ _ => rfl)) (len_le (n := 2) rfl (by decide))) rfl)) rfl
      · refine j_to (γ2 := [.sh ((eT (eP4 eI eI eI eI)) calls1), .sh (eI pace2), .sh (eI x5), .sh (eI x8)]) rfl ?_
        exact j_nil (⟨rfl, ⟨rfl, ⟨rfl, trivial⟩⟩⟩)
    · refine j_to (γ2 := [.sh ((eT (eP4 eI eI eI eI)) calls1), .sh (eI pace2), .sh (eI x5), .un]) rfl ?_
      exact j_nil (⟨rfl, ⟨rfl, trivial⟩⟩)
  · exact j_ret (EJ.of (d' := (eO (eP2 eI eI)) none) e_non rfl) rfl
theorem ok_told_call_quarrel (C : Gl K mg base tabs) : Known P w K mg base tabs 2 "told_call_quarrel" 2 R_told_call_quarrel := known_of (k := 1) C.d_told_call_quarrel sc_told_call_quarrel fun cdv B F0 ds r _ hr => by
  obtain ⟨calls1, pace2, y, rfl, hy, rfl⟩ := hr
  exact (j_told_call_quarrel C cdv B F0 calls1 pace2).body hy
def R_side_bounds (ds : List PyData) (r : PyData) : Prop := ∃ (calls1 : (List (Int × Int × Int × Int))), ∃ (pace2 : Int), ∃ (time3 : Int), ∃ (side4 : Int), ∃ y, ds = [(eT (eP4 eI eI eI eI)) calls1, eI pace2, eI time3, eI side4] ∧ m_side_bounds calls1 pace2 time3 side4 = some y ∧ r = (eP2 eI eI) y
theorem j_side_bounds (C : Gl K mg base tabs) (cdv : Value) (B F0 : Hp) (calls1 : (List (Int × Int × Int × Int))) (pace2 : Int) (time3 : Int) (side4 : Int) : J (Stat.of P w K mg base ["calls", "pace", "time", "side", "rooms", "call", "middle", "room"] (defScope s_side_bounds) 0 tabs cdv B F0) [.sh ((eT (eP4 eI eI eI eI)) calls1), .sh (eI pace2), .sh (eI time3), .sh (eI side4), .un, .un, .un, .un] (defBody s_side_bounds) (pT (eP2 eI eI)) (m_side_bounds calls1 pace2 time3 side4) := by
  unfold m_side_bounds
  refine j_bind fun rooms9 hl8 => ?_
  refine j_setLc (i := 4) (own := [("call", 5)]) (encA := (eP4 eI eI eI eI)) (encB := (eP2 eI eI)) (xs := calls1) (f := (fun (x5 : (Int × Int × Int × Int)) => ((atI [x5.1, x5.2.1, x5.2.2.1, x5.2.2.2] side4).bind fun t6 => ((mulO pace2 ((Int.natAbs (x5.1 - time3) : Nat) : Int)).bind fun t7 => (some (some (t6, (x5.2.2.2 + t7)))))))) (ys := rooms9) ⟨nd_side_bounds, rfl, .inl rfl, .inr rfl⟩ rfl (IW.x (i_tup (e_var (i := 0) rfl (.inl rfl) rfl))) (fun x5 _ => (cb_bind fun t6 ht6 => (cb_bind fun t7 ht7 => (cb0T (y := (t6, (x5.2.2.2 + t7))) (g_name (i := 5) ⟨nd_side_bounds, rfl, .inl rfl, .inr rfl⟩) (by decide) (EJ.of (d' := ((eP2 eI eI) (t6, (x5.2.2.2 + t7)))) (e_tup (a_cons (e_ixT (enc := eI) (xs := [x5.1, x5.2.1, x5.2.2.1, x5.2.2.2]) (EJ.qt (EJ.of (d' := (eT eI) [x5.1, x5.2.1, x5.2.2.1, x5.2.2.2]) (e_var (i := 5) rfl (.inl rfl) rfl) rfl)) (e_var (i := 3) rfl (.inr (.inl rfl)) rfl) ht6 (fun _ _ => rfl)) (a_cons (e_add (e_ixC (i := 3) (e_var (i := 5) rfl (.inl rfl) rfl) rfl) (e_mulO (e_var (i := 1) rfl (.inr (.inl rfl)) rfl) (e_abs rfl C.b_abs (e_sub (e_ixC (i := 0) (e_var (i := 5) rfl (.inl rfl) rfl) rfl) (e_var (i := 2) rfl (.inr (.inl rfl)) rfl)) (fun _ _ => rfl)) ht7)) a_nil (fun _ _ => rfl)) (fun _ _ => rfl)) (len_le (n := 2) rfl (by decide))) rfl))))) hl8 rfl (by decide) (fun _ _ => rfl) rfl rfl rfl ?_
  refine j_share (j := 4) rfl ?_
  refine j_bind fun t11 ht11 => ?_
  refine j_bind fun t13 ht13 => ?_
  exact j_ret (EJ.of (d' := ((eP2 eI eI) (t11, t13))) (e_tup (a_cons (e_maxL rfl C.b_max (FJ.q (f_lc (own := [("middle", 6), ("room", 7)]) (enc := (eP2 eI eI)) (encB := eI) (xs := rooms9) (f := (fun (x10 : (Int × Int)) => some (some (x10.1 - x10.2)))) (IW.x (i_list (e_var (i := 4) rfl (.inl rfl) rfl))) (fun x10 _ => cb0T (y := (x10.1 - x10.2)) (g_tup (gs_cons (g_name (i := 6) ⟨nd_side_bounds, rfl, .inl rfl, .inr rfl⟩) (gs_cons (g_name (i := 7) ⟨nd_side_bounds, rfl, .inl rfl, .inr rfl⟩) gs_nil (fun _ _ => rfl)) (fun _ _ => rfl)) (fun _ => rfl) (fun _ => rfl)) (by decide) (e_sub (e_var (i := 6) rfl (.inl rfl) rfl) (e_var (i := 7) rfl (.inl rfl) rfl))) (compM_map _) nd_side_bounds rfl (by decide) (fun _ _ => rfl))) ht11 (fun _ _ => rfl)) (a_cons (e_minL rfl C.b_min (FJ.q (f_lc (own := [("middle", 6), ("room", 7)]) (enc := (eP2 eI eI)) (encB := eI) (xs := rooms9) (f := (fun (x12 : (Int × Int)) => some (some (x12.1 + x12.2)))) (IW.x (i_list (e_var (i := 4) rfl (.inl rfl) rfl))) (fun x12 _ => cb0T (y := (x12.1 + x12.2)) (g_tup (gs_cons (g_name (i := 6) ⟨nd_side_bounds, rfl, .inl rfl, .inr rfl⟩) (gs_cons (g_name (i := 7) ⟨nd_side_bounds, rfl, .inl rfl, .inr rfl⟩) gs_nil (fun _ _ => rfl)) (fun _ _ => rfl)) (fun _ => rfl) (fun _ => rfl)) (by decide) (e_add (e_var (i := 6) rfl (.inl rfl) rfl) (e_var (i := 7) rfl (.inl rfl) rfl))) (compM_map _) nd_side_bounds rfl (by decide) (fun _ _ => rfl))) ht13 (fun _ _ => rfl)) a_nil (fun _ _ => rfl)) (fun _ _ => rfl)) (len_le (n := 2) rfl (by decide))) rfl) rfl
theorem ok_side_bounds (C : Gl K mg base tabs) : Known P w K mg base tabs 1 "side_bounds" 4 R_side_bounds := known_of (k := 0) C.d_side_bounds sc_side_bounds fun cdv B F0 ds r _ hr => by
  obtain ⟨calls1, pace2, time3, side4, y, rfl, hy, rfl⟩ := hr
  exact (j_side_bounds C cdv B F0 calls1 pace2 time3 side4).body hy
def R_whereabouts (ds : List PyData) (r : PyData) : Prop := ∃ (calls1 : (List (Int × Int × Int × Int))), ∃ (pace2 : Int), ∃ (time3 : Int), ∃ y, ds = [(eT (eP4 eI eI eI eI)) calls1, eI pace2, eI time3] ∧ m_whereabouts calls1 pace2 time3 = some y ∧ r = (eO (eP4 eI eI eI eI)) y
theorem j_whereabouts (C : Gl K mg base tabs) (cdv : Value) (B F0 : Hp) (calls1 : (List (Int × Int × Int × Int))) (pace2 : Int) (time3 : Int) : J (Stat.of P w K mg base ["calls", "pace", "time"] (defScope s_whereabouts) 2 tabs cdv B F0) [.sh ((eT (eP4 eI eI eI eI)) calls1), .sh (eI pace2), .sh (eI time3)] (defBody s_whereabouts) (pT (eO (eP4 eI eI eI eI))) (m_whereabouts calls1 pace2 time3) := by
  unfold m_whereabouts
  refine j_bind fun t4 ht4 => ?_
  refine j_ifR (t_cmp (c_notN (EJ.of (d' := (eO (eP2 eI eI)) t4) (e_callK (ok_told_call_quarrel C) (Nat.le_of_ble_eq_true rfl) rfl (a_cons (e_var (i := 0) rfl (.inl rfl) rfl) (a_cons (e_var (i := 1) rfl (.inl rfl) rfl) a_nil (fun _ _ => rfl)) (fun _ _ => rfl)) ⟨calls1, pace2, t4, rfl, ht4, rfl⟩ rfl (fun _ _ => rfl) (fun _ => rfl) (by decide)) rfl)) (nomark _)) (fun hc => ?_) (fun hc => ?_)
  · exact j_ret (EJ.of (d' := (eO (eP4 eI eI eI eI)) none) e_non rfl) rfl
  · refine j_bind fun t5 ht5 => ?_
    refine j_bind fun t6 ht6 => ?_
    exact j_ret (EJ.into (enc := (eP4 eI eI eI eI)) (EJ.of (d' := (eP4 eI eI eI eI) (t5.1, t5.2, t6.1, t6.2)) (e_cat (EJ.of (d' := (eP2 eI eI) t5) (e_callK (ok_side_bounds C) (Nat.le_of_ble_eq_true rfl) rfl (a_cons (e_var (i := 0) rfl (.inl rfl) rfl) (a_cons (e_var (i := 1) rfl (.inl rfl) rfl) (a_cons (e_var (i := 2) rfl (.inl rfl) rfl) (a_cons e_int a_nil (fun _ _ => rfl)) (fun _ _ => rfl)) (fun _ _ => rfl)) (fun _ _ => rfl)) ⟨calls1, pace2, time3, (1 : Int), t5, rfl, ht5, rfl⟩ rfl (fun _ _ => rfl) (fun _ => rfl) (by decide)) rfl) (EJ.of (d' := (eP2 eI eI) t6) (e_callK (ok_side_bounds C) (Nat.le_of_ble_eq_true rfl) rfl (a_cons (e_var (i := 0) rfl (.inl rfl) rfl) (a_cons (e_var (i := 1) rfl (.inl rfl) rfl) (a_cons (e_var (i := 2) rfl (.inl rfl) rfl) (a_cons e_int a_nil (fun _ _ => rfl)) (fun _ _ => rfl)) (fun _ _ => rfl)) (fun _ _ => rfl)) ⟨calls1, pace2, time3, (2 : Int), t6, rfl, ht6, rfl⟩ rfl (fun _ _ => rfl) (fun _ => rfl) (by decide)) rfl) (by show (2 + 2 : Nat) ≤ 16777216; decide)) rfl)) rfl
theorem ok_whereabouts (C : Gl K mg base tabs) : Known P w K mg base tabs 3 "whereabouts" 3 R_whereabouts := known_of (k := 2) C.d_whereabouts sc_whereabouts fun cdv B F0 ds r _ hr => by
  obtain ⟨calls1, pace2, time3, y, rfl, hy, rfl⟩ := hr
  exact (j_whereabouts C cdv B F0 calls1 pace2 time3).body hy
def R_told_walk (ds : List PyData) (r : PyData) : Prop := ∃ (calls1 : (List (Int × Int × Int × Int))), ∃ (pace2 : Int), ∃ (last3 : Int), ∃ y, ds = [(eT (eP4 eI eI eI eI)) calls1, eI pace2, eI last3] ∧ m_told_walk calls1 pace2 last3 = some y ∧ r = (eO (eT (eP2 eI eI))) y
theorem j_told_walk (C : Gl K mg base tabs) (cdv : Value) (B F0 : Hp) (calls1 : (List (Int × Int × Int × Int))) (pace2 : Int) (last3 : Int) : J (Stat.of P w K mg base ["calls", "pace", "last", "found", "time", "low_row", "_", "low_column"] (defScope s_told_walk) 3 tabs cdv B F0) [.sh ((eT (eP4 eI eI eI eI)) calls1), .sh (eI pace2), .sh (eI last3), .un, .un, .un, .un, .un] (defBody s_told_walk) (pT (eO (eT (eP2 eI eI)))) (m_told_walk calls1 pace2 last3) := by
  unfold m_told_walk
  refine j_bind fun t4 ht4 => ?_
  refine j_ifR (t_cmp (c_notN (EJ.of (d' := (eO (eP2 eI eI)) t4) (e_callK (ok_told_call_quarrel C) (Nat.le_of_ble_eq_true rfl) rfl (a_cons (e_var (i := 0) rfl (.inl rfl) rfl) (a_cons (e_var (i := 1) rfl (.inl rfl) rfl) a_nil (fun _ _ => rfl)) (fun _ _ => rfl)) ⟨calls1, pace2, t4, rfl, ht4, rfl⟩ rfl (fun _ _ => rfl) (fun _ => rfl) (by decide)) rfl)) (nomark _)) (fun hc => ?_) (fun hc => ?_)
  · exact j_ret (EJ.of (d' := (eO (eT (eP2 eI eI))) none) e_non rfl) rfl
  · refine j_bind fun found5 hfound5 => ?_
    refine j_setF (i := 3) ⟨nd_told_walk, rfl, .inl rfl, .inr rfl⟩ (FJ.of (FJ.of (ds' := List.map (eP2 eI eI) ([] : List (Int × Int))) (f_lst a_nil (len_le (n := 0) rfl (by decide))) rfl) (congrArg (List.map (eP2 eI eI)) (Option.some.inj hfound5))) (fun _ _ => rfl) ?_
    refine j_bind fun r6 hr6 => ?_
    refine j_to (γ2 := [.sh ((eT (eP4 eI eI eI eI)) calls1), .sh (eI pace2), .sh (eI last3), .ow (.list (List.map (eP2 eI eI) found5)), .un, .un, .un, .un]) rfl ?_
    refine j_for (enc := eI) (xs := r6) (γ0 := fun (s7 : ((List (Int × Int)))) => [.sh ((eT (eP4 eI eI eI eI)) calls1), .sh (eI pace2), .un, .ow (.list (List.map (eP2 eI eI) s7)), .un, .un, .un, .un]) (t0 := (found5)) (i_range1O rfl C.b_range (e_add (e_var (i := 2) rfl (.inl rfl) rfl) e_int) (fun _ _ => rfl) hr6) (⟨rfl, ⟨rfl, ⟨rfl, trivial⟩⟩⟩) (fun s7 x8 hx8 => ⟨_, _, (g_name (i := 4) ⟨nd_told_walk, rfl, .inl rfl, .inr rfl⟩), ?_⟩) (fun s7 => ?_) (fun _ _ => rfl)
    · refine j_bind fun t9 ht9 => ?_
      refine j_bind fun t10 ht10 => ?_
      refine j_asg (EJ.some (enc := (eP4 eI eI eI eI)) (EJ.of (d' := (eO (eP4 eI eI eI eI)) t9) (e_callK (ok_whereabouts C) (Nat.le_of_ble_eq_true rfl) rfl (a_cons (e_var (i := 0) rfl (.inl rfl) rfl) (a_cons (e_var (i := 1) rfl (.inl rfl) rfl) (a_cons (e_var (i := 4) rfl (.inl rfl) rfl) a_nil (fun _ _ => rfl)) (fun _ _ => rfl)) (fun _ _ => rfl)) ⟨calls1, pace2, x8, t9, rfl, ht9, rfl⟩ rfl (fun _ _ => rfl) (fun _ => rfl) (by decide)) rfl) ht10) (g_tup (gs_cons (g_name (i := 5) ⟨nd_told_walk, rfl, .inl rfl, .inr rfl⟩) (gs_cons (g_name (i := 6) ⟨nd_told_walk, rfl, .inl rfl, .inr rfl⟩) (gs_cons (g_name (i := 7) ⟨nd_told_walk, rfl, .inl rfl, .inr rfl⟩) (gs_cons (g_name (i := 6) ⟨nd_told_walk, rfl, .inl rfl, .inr rfl⟩) gs_nil (fun _ _ => rfl)) (fun _ _ => rfl)) (fun _ _ => rfl)) (fun _ _ => rfl)) (fun _ => rfl) (fun _ => rfl)) (fun _ => rfl) (fun _ => rfl) (fun _ => rfl) ?_
      refine j_bind fun found12 hfound12 => ?_
      refine j_appO (j := 3) (enc := (eP2 eI eI)) (xs := s7) (zs := found12) rfl (.inl rfl) rfl (EJ.of (d' := ((eP2 eI eI) (t10.1, t10.2.2.1))) (e_tup (a_cons (e_var (i := 5) rfl (.inl rfl) rfl) (a_cons (e_var (i := 7) rfl (.inl rfl) rfl) a_nil (fun _ _ => rfl)) (fun _ _ => rfl)) (len_le (n := 2) rfl (by decide))) rfl) hfound12 (fun _ _ => rfl) (by decide) (by decide) (fun _ => rfl) rfl ?_
      refine j_to (γ2 := [.sh ((eT (eP4 eI eI eI eI)) calls1), .sh (eI pace2), .un, .ow (.list (List.map (eP2 eI eI) found12)), .sh (eI x8), .sh (eI t10.1), .sh (eI t10.2.2.2), .sh (eI t10.2.2.1)]) rfl ?_
      exact j_nil (⟨rfl, ⟨rfl, ⟨rfl, trivial⟩⟩⟩)
    · exact j_ret (EJ.into (enc := (eT (eP2 eI eI))) (e_tuple (k := .l) rfl C.b_tuple (q_own (i := 3) (ds := List.map (eP2 eI eI) s7) rfl (.inl rfl) rfl) (fun _ _ => rfl))) rfl
theorem ok_told_walk (C : Gl K mg base tabs) : Known P w K mg base tabs 4 "told_walk" 3 R_told_walk := known_of (k := 3) C.d_told_walk sc_told_walk fun cdv B F0 ds r _ hr => by
  obtain ⟨calls1, pace2, last3, y, rfl, hy, rfl⟩ := hr
  exact (j_told_walk C cdv B F0 calls1 pace2 last3).body hy
def R_are_near (ds : List PyData) (r : PyData) : Prop := ∃ (one1 : (Int × Int)), ∃ (other2 : (Int × Int)), ∃ (room3 : Int), ∃ y, ds = [(eP2 eI eI) one1, (eP2 eI eI) other2, eI room3] ∧ m_are_near one1 other2 room3 = some y ∧ r = eB y
theorem j_are_near (C : Gl K mg base tabs) (cdv : Value) (B F0 : Hp) (one1 : (Int × Int)) (other2 : (Int × Int)) (room3 : Int) : J (Stat.of P w K mg base ["one", "other", "room"] (defScope s_are_near) 0 tabs cdv B F0) [.sh ((eP2 eI eI) one1), .sh ((eP2 eI eI) other2), .sh (eI room3)] (defBody s_are_near) (pT eB) (m_are_near one1 other2 room3) := by
  unfold m_are_near
  exact j_ret (e_and (e_cmp (c_le (e_abs rfl C.b_abs (e_sub (e_ixC (i := 0) (e_var (i := 0) rfl (.inl rfl) rfl) rfl) (e_ixC (i := 0) (e_var (i := 1) rfl (.inl rfl) rfl) rfl)) (fun _ _ => rfl)) (e_var (i := 2) rfl (.inl rfl) rfl)) (nomark _)) fun _ => (e_one (e_cmp (c_le (e_abs rfl C.b_abs (e_sub (e_ixC (i := 1) (e_var (i := 0) rfl (.inl rfl) rfl) rfl) (e_ixC (i := 1) (e_var (i := 1) rfl (.inl rfl) rfl) rfl)) (fun _ _ => rfl)) (e_var (i := 2) rfl (.inl rfl) rfl)) (nomark _)))) rfl
theorem ok_are_near (C : Gl K mg base tabs) : Known P w K mg base tabs 1 "are_near" 3 R_are_near := known_of (k := 0) C.d_are_near sc_are_near fun cdv B F0 ds r _ hr => by
  obtain ⟨one1, other2, room3, y, rfl, hy, rfl⟩ := hr
  exact (j_are_near C cdv B F0 one1 other2 room3).body hy
def R_is_heard_walk (ds : List PyData) (r : PyData) : Prop := ∃ (calls1 : (List (Int × Int × Int × Int))), ∃ (pace2 : Int), ∃ (last3 : Int), ∃ (walk4 : (List (Int × Int))), ∃ y, ds = [(eT (eP4 eI eI eI eI)) calls1, eI pace2, eI last3, (eT (eP2 eI eI)) walk4] ∧ m_is_heard_walk calls1 pace2 last3 walk4 = some y ∧ r = eB y
theorem j_is_heard_walk (C : Gl K mg base tabs) (c T : Addr) (hT : T ∈ tabs) (TB : GxR.TabB base mg c T) (B F0 : Hp) (calls1 : (List (Int × Int × Int × Int))) (pace2 : Int) (last3 : Int) (walk4 : (List (Int × Int))) : J (Stat.of P w K mg base ["calls", "pace", "last", "walk", "time", "row", "column", "d"] (defScope s_is_heard_walk) 4 tabs (.ref c) B F0) [.sh ((eT (eP4 eI eI eI eI)) calls1), .sh (eI pace2), .sh (eI last3), .sh ((eT (eP2 eI eI)) walk4), .un, .un, .un, .un] (defBody s_is_heard_walk) (pT eB) (m_is_heard_walk calls1 pace2 last3 walk4) := by
  unfold m_is_heard_walk
  refine j_ifR (t_cmp (c_neI (e_lenT (enc := (eP2 eI eI)) (xs := walk4) rfl C.b_len (EJ.qt (e_var (i := 3) rfl (.inr (.inl rfl)) rfl)) (fun _ _ => rfl)) (e_add (e_var (i := 2) rfl (.inl rfl) rfl) e_int)) (nomark _)) (fun hc => ?_) (fun hc => ?_)
  · exact j_ret e_bl rfl
  · refine j_bind fun r5 hr5 => ?_
    refine j_bind fun t10 ht10 => ?_
    refine j_ifR (t_not (t_val (e_gxAll (own := [("time", 4)]) (encA := eI) (xs := r5) (f := (fun (x6 : Int) => ((atI walk4 x6).bind fun t7 => ((atI walk4 (x6 + (1 : Int))).bind fun t8 => ((m_are_near t7 t8 pace2).bind fun t9 => (some (some t9))))))) (Nat.le_of_ble_eq_true rfl) rfl hT TB rfl C.b_all (IW.x (i_range1O rfl C.b_range (e_var (i := 2) rfl (.inl rfl) rfl) (fun _ _ => rfl) hr5)) (fun _ x6 _ => (cb_bind fun t7 ht7 => (cb_bind fun t8 ht8 => (cb_bind fun t9 ht9 => (cb0T (y := t9) (g_name (i := 4) ⟨nd_is_heard_walk, rfl, .inl rfl, .inr rfl⟩) (by decide) (EJ.of (d' := eB t9) (e_callK (ok_are_near C) (Nat.le_of_ble_eq_true rfl) rfl (a_cons (e_ixT (enc := (eP2 eI eI)) (xs := walk4) (EJ.qt (e_var (i := 3) rfl (.inr (.inr rfl)) rfl)) (e_var (i := 4) rfl (.inl rfl) rfl) ht7 (fun _ _ => rfl)) (a_cons (e_ixT (enc := (eP2 eI eI)) (xs := walk4) (EJ.qt (e_var (i := 3) rfl (.inr (.inr rfl)) rfl)) (e_add (e_var (i := 4) rfl (.inl rfl) rfl) e_int) ht8 (fun _ _ => rfl)) (a_cons (e_var (i := 1) rfl (.inr (.inr rfl)) rfl) a_nil (fun _ _ => rfl)) (fun _ _ => rfl)) (fun _ _ => rfl)) ⟨t7, t8, pace2, t9, rfl, ht9, rfl⟩ rfl (fun _ _ => rfl) (fun _ => rfl) (by decide)) rfl)))))) ht10 nd_is_heard_walk rfl (by decide) (fun _ _ => rfl) (fun _ => rfl)) (fun _ _ => rfl))) (fun hc => ?_) (fun hc => ?_)
    · exact j_ret e_bl rfl
    · refine j_bind fun t14 ht14 => ?_
      exact j_ret (e_gxAll (own := [("time", 4), ("row", 5), ("column", 6), ("d", 7)]) (encA := (eP4 eI eI eI eI)) (xs := calls1) (f := (fun (x11 : (Int × Int × Int × Int)) => ((atI walk4 x11.1).bind fun t12 => ((m_are_near t12 (x11.2.1, x11.2.2.1) x11.2.2.2).bind fun t13 => (some (some t13)))))) (Nat.le_of_ble_eq_true rfl) rfl hT TB rfl C.b_all (IW.x (i_tup (e_var (i := 0) rfl (.inl rfl) rfl))) (fun _ x11 _ => (cb_bind fun t12 ht12 => (cb_bind fun t13 ht13 => (cb0T (y := t13) (g_tup (gs_cons (g_name (i := 4) ⟨nd_is_heard_walk, rfl, .inl rfl, .inr rfl⟩) (gs_cons (g_name (i := 5) ⟨nd_is_heard_walk, rfl, .inl rfl, .inr rfl⟩) (gs_cons (g_name (i := 6) ⟨nd_is_heard_walk, rfl, .inl rfl, .inr rfl⟩) (gs_cons (g_name (i := 7) ⟨nd_is_heard_walk, rfl, .inl rfl, .inr rfl⟩) gs_nil (fun _ _ => rfl)) (fun _ _ => rfl)) (fun _ _ => rfl)) (fun _ _ => rfl)) (fun _ => rfl) (fun _ => rfl)) (by decide) (EJ.of (d' := eB t13) (e_callK (ok_are_near C) (Nat.le_of_ble_eq_true rfl) rfl (a_cons (e_ixT (enc := (eP2 eI eI)) (xs := walk4) (EJ.qt (e_var (i := 3) rfl (.inr (.inr rfl)) rfl)) (e_var (i := 4) rfl (.inl rfl) rfl) ht12 (fun _ _ => rfl)) (a_cons (EJ.of (d' := ((eP2 eI eI) (x11.2.1, x11.2.2.1))) (e_tup (a_cons (e_var (i := 5) rfl (.inl rfl) rfl) (a_cons (e_var (i := 6) rfl (.inl rfl) rfl) a_nil (fun _ _ => rfl)) (fun _ _ => rfl)) (len_le (n := 2) rfl (by decide))) rfl) (a_cons (e_var (i := 7) rfl (.inl rfl) rfl) a_nil (fun _ _ => rfl)) (fun _ _ => rfl)) (fun _ _ => rfl)) ⟨t12, (x11.2.1, x11.2.2.1), x11.2.2.2, t13, rfl, ht13, rfl⟩ rfl (fun _ _ => rfl) (fun _ => rfl) (by decide)) rfl))))) ht14 nd_is_heard_walk rfl (by decide) (fun _ _ => rfl) (fun _ => rfl)) rfl
theorem ok_is_heard_walk (C : Gl K mg base tabs) : Known P w K mg base tabs 5 "is_heard_walk" 4 R_is_heard_walk := known_ofT (k := 4) C.d_is_heard_walk sc_is_heard_walk fun c T hT TB B F0 ds r _ hr => by
  obtain ⟨calls1, pace2, last3, walk4, y, rfl, hy, rfl⟩ := hr
  exact (j_is_heard_walk C c T hT TB B F0 calls1 pace2 last3 walk4).body hy
def R__law_cell (ds : List PyData) (r : PyData) : Prop := ∃ (script1 : (List Int)), ∃ (k2 : Int), ∃ y, ds = [(eL eI) script1, eI k2] ∧ m__law_cell script1 k2 = some y ∧ r = eI y
theorem j__law_cell (C : Gl K mg base tabs) (cdv : Value) (B F0 : Hp) (script1 : (List Int)) (k2 : Int) : J (Stat.of P w K mg base ["script", "k"] (defScope s__law_cell) 0 tabs cdv B F0) [.sh ((eL eI) script1), .sh (eI k2)] (defBody s__law_cell) (pT eI) (m__law_cell script1 k2) := by
  unfold m__law_cell
  refine j_ifR (t_cmp (c_lt (e_var (i := 1) rfl (.inl rfl) rfl) (e_lenT (enc := eI) (xs := script1) rfl C.b_len (EJ.ql (e_var (i := 0) rfl (.inl rfl) rfl)) (fun _ _ => rfl))) (nomark _)) (fun hc => ?_) (fun hc => ?_)
  · refine j_bind fun t3 ht3 => ?_
    exact j_ret (e_ixT (enc := eI) (xs := script1) (EJ.ql (e_var (i := 0) rfl (.inl rfl) rfl)) (e_var (i := 1) rfl (.inl rfl) rfl) ht3 (fun _ _ => rfl)) rfl
  · exact j_ret (e_add (e_mul e_int (e_var (i := 1) rfl (.inl rfl) rfl) (.inl (by decide))) e_int) rfl
theorem ok__law_cell (C : Gl K mg base tabs) : Known P w K mg base tabs 1 "_law_cell" 2 R__law_cell := known_of (k := 0) C.d__law_cell sc__law_cell fun cdv B F0 ds r _ hr => by
  obtain ⟨script1, k2, y, rfl, hy, rfl⟩ := hr
  exact (j__law_cell C cdv B F0 script1 k2).body hy
def R__law_draws (ds : List PyData) (r : PyData) : Prop := ∃ (cell1 : Int), ∃ (count2 : Int), ∃ y, ds = [eI cell1, eI count2] ∧ m__law_draws cell1 count2 = some y ∧ r = (eL eI) y
theorem j__law_draws (C : Gl K mg base tabs) (cdv : Value) (B F0 : Hp) (cell1 : Int) (count2 : Int) : J (Stat.of P w K mg base ["cell", "count", "rest", "digits", "seed", "draws", "k", "mixed"] (defScope s__law_draws) 0 tabs cdv B F0) [.sh (eI cell1), .sh (eI count2), .un, .un, .un, .un, .un, .un] (defBody s__law_draws) (pT (eL eI)) (m__law_draws cell1 count2) := by
  unfold m__law_draws
  refine j_bind fun rest3 hrest3 => ?_
  refine j_set (i := 2) ⟨nd__law_draws, rfl, .inl rfl, .inr rfl⟩ (EJ.of (e_abs rfl C.b_abs (e_int1 rfl C.b_int (e_var (i := 0) rfl (.inl rfl) rfl) (fun _ _ => rfl)) (fun _ _ => rfl)) (congrArg eI (Option.some.inj hrest3))) (fun _ _ => rfl) ?_
  refine j_bind fun digits4 hdigits4 => ?_
  refine j_set (i := 3) ⟨nd__law_draws, rfl, .inl rfl, .inr rfl⟩ (EJ.of (e_cmp (c_ge (e_var (i := 2) rfl (.inl rfl) rfl) (EJ.of (d' := .int 1000000000000000000) (e_pow e_int e_int ⟨by decide, by decide, by decide⟩) rfl)) (nomark _)) (congrArg eB (Option.some.inj hdigits4))) (fun _ _ => rfl) ?_
  refine j_bind fun seed5 hseed5 => ?_
  refine j_set (i := 4) ⟨nd__law_draws, rfl, .inl rfl, .inr rfl⟩ (EJ.of (e_var (i := 2) rfl (.inl rfl) rfl) (congrArg eI (Option.some.inj hseed5))) (fun _ _ => rfl) ?_
  refine j_bind fun draws6 hdraws6 => ?_
  refine j_setF (i := 5) ⟨nd__law_draws, rfl, .inl rfl, .inr rfl⟩ (FJ.of (FJ.of (ds' := List.map eI ([] : List Int)) (f_lst a_nil (len_le (n := 0) rfl (by decide))) rfl) (congrArg (List.map eI) (Option.some.inj hdraws6))) (fun _ _ => rfl) ?_
  refine j_bind fun r7 hr7 => ?_
  refine j_to (γ2 := [.sh (eI cell1), .sh (eI count2), .sh (eI rest3), .sh (eB digits4), .sh (eI seed5), .ow (.list (List.map eI draws6)), .un, .un]) rfl ?_
  refine j_for (enc := eI) (xs := r7) (γ0 := fun (s8 : (Int × (List Int))) => [.un, .un, .sh (eI s8.1), .sh (eB digits4), .sh (eI seed5), .ow (.list (List.map eI s8.2)), .un, .un]) (t0 := (rest3, draws6)) (i_range1O rfl C.b_range (e_var (i := 1) rfl (.inl rfl) rfl) (fun _ _ => rfl) hr7) (⟨rfl, ⟨rfl, ⟨rfl, ⟨rfl, trivial⟩⟩⟩⟩) (fun s8 x9 hx9 => ⟨_, _, (g_name (i := 6) ⟨nd__law_draws, rfl, .inl rfl, .inr rfl⟩), ?_⟩) (fun s8 => ?_) (fun _ _ => rfl)
  · refine j_ifJ (γj := fun (j16 : (Int × (List Int))) => [.un, .un, .sh (eI j16.1), .sh (eB digits4), .sh (eI seed5), .ow (.list (List.map eI j16.2)), .un, .un]) (t_w (w_and (t_val (e_var (i := 3) rfl (.inl rfl) rfl) (fun _ _ => rfl)) fun _ => (w_and1 (t_cmp (c_gt (e_var (i := 2) rfl (.inl rfl) rfl) e_int) (nomark _))))) (fun hc => ?_) (fun hc => ?_) (fun j16 => ?_)
    · refine j_bind fun draws17 hdraws17 => ?_
      refine j_appO (j := 5) (enc := eI) (xs := s8.2) (zs := draws17) rfl (.inl rfl) rfl (e_mod (e_int1 rfl C.b_int (e_var (i := 2) rfl (.inl rfl) rfl) (fun _ _ => rfl)) e_int (by decide)) hdraws17 (fun _ _ => rfl) (by decide) (by decide) (fun _ => rfl) rfl ?_
      refine j_bind fun rest18 hrest18 => ?_
      refine j_set (i := 2) ⟨nd__law_draws, rfl, .inl rfl, .inr rfl⟩ (EJ.of (e_fdiv (e_var (i := 2) rfl (.inl rfl) rfl) e_int ⟨by decide, by decide⟩) (congrArg eI (Option.some.inj hrest18))) (fun _ _ => rfl) ?_
      refine j_to (γ2 := [.un, .un, .sh (eI rest18), .sh (eB digits4), .sh (eI seed5), .ow (.list (List.map eI draws17)), .sh (eI x9), .un]) rfl ?_
      exact j_nil (⟨rfl, ⟨rfl, ⟨rfl, ⟨rfl, trivial⟩⟩⟩⟩)
    · refine j_bind fun mixed19 hmixed19 => ?_
      refine j_set (i := 7) ⟨nd__law_draws, rfl, .inl rfl, .inr rfl⟩ (EJ.of (e_mod (e_int1 rfl C.b_int (e_add (e_add (e_mul (e_var (i := 4) rfl (.inl rfl) rfl) e_int (.inr (by decide))) (e_mul (e_add (e_var (i := 6) rfl (.inl rfl) rfl) e_int) e_int (.inr (by decide)))) e_int) (fun _ _ => rfl)) e_int (by decide)) (congrArg eI (Option.some.inj hmixed19))) (fun _ _ => rfl) ?_
      refine j_bind fun t20 ht20 => ?_
      refine j_bind fun mixed21 hmixed21 => ?_
      refine j_set (i := 7) ⟨nd__law_draws, rfl, .inl rfl, .inr rfl⟩ (EJ.of (e_mod (e_int1 rfl C.b_int (e_add (e_mulO (e_var (i := 7) rfl (.inl rfl) rfl) (e_var (i := 7) rfl (.inl rfl) rfl) ht20) (e_mul e_int (e_add (e_var (i := 6) rfl (.inl rfl) rfl) e_int) (.inl (by decide)))) (fun _ _ => rfl)) e_int (by decide)) (congrArg eI (Option.some.inj hmixed21))) (fun _ _ => rfl) ?_
      refine j_bind fun draws22 hdraws22 => ?_
      refine j_appO (j := 5) (enc := eI) (xs := s8.2) (zs := draws22) rfl (.inl rfl) rfl (e_mod (e_int1 rfl C.b_int (e_fdiv (e_var (i := 7) rfl (.inl rfl) rfl) e_int ⟨by decide, by decide⟩) (fun _ _ => rfl)) e_int (by decide)) hdraws22 (fun _ _ => rfl) (by decide) (by decide) (fun _ => rfl) rfl ?_
      refine j_to (γ2 := [.un, .un, .sh (eI s8.1), .sh (eB digits4), .sh (eI seed5), .ow (.list (List.map eI draws22)), .sh (eI x9), .sh (eI mixed21)]) rfl ?_
      exact j_nil (⟨rfl, ⟨rfl, ⟨rfl, ⟨rfl, trivial⟩⟩⟩⟩)
    · refine j_to (γ2 := [.un, .un, .sh (eI j16.1), .sh (eB digits4), .sh (eI seed5), .ow (.list (List.map eI j16.2)), .un, .un]) rfl ?_
      exact j_nil (⟨rfl, ⟨rfl, ⟨rfl, ⟨rfl, trivial⟩⟩⟩⟩)
  · refine j_share (j := 5) rfl ?_
    exact j_ret (e_var (i := 5) rfl (.inl rfl) rfl) rfl
theorem ok__law_draws (C : Gl K mg base tabs) : Known P w K mg base tabs 1 "_law_draws" 2 R__law_draws := known_of (k := 0) C.d__law_draws sc__law_draws fun cdv B F0 ds r _ hr => by
  obtain ⟨cell1, count2, y, rfl, hy, rfl⟩ := hr
  exact (j__law_draws C cdv B F0 cell1 count2).body hy
def R__law_is_integer (ds : List PyData) (r : PyData) : Prop := ∃ (value1 : PyData), ∃ y, ds = [eD value1] ∧ m__law_is_integer value1 = some y ∧ r = eB y
theorem j__law_is_integer (C : Gl K mg base tabs) (cdv : Value) (B F0 : Hp) (value1 : PyData) : J (Stat.of P w K mg base ["value"] (defScope s__law_is_integer) 0 tabs cdv B F0) [.sh (eD value1)] (defBody s__law_is_integer) (pT eB) (m__law_is_integer value1) := by
  unfold m__law_is_integer
  exact j_ret (e_and (e_isi rfl C.b_isinstance rfl C.b_int rfl (e_var (i := 0) rfl (.inl rfl) rfl) (fun _ _ => rfl) (kit_int _) (fun _ => rfl) (by decide) rfl) fun _ => (e_one (e_not (e_isi rfl C.b_isinstance rfl C.b_bool rfl (e_var (i := 0) rfl (.inl rfl) rfl) (fun _ _ => rfl) (kit_bool _) (fun _ => rfl) (by decide) rfl)))) rfl
theorem ok__law_is_integer (C : Gl K mg base tabs) : Known P w K mg base tabs 1 "_law_is_integer" 1 R__law_is_integer := known_of (k := 0) C.d__law_is_integer sc__law_is_integer fun cdv B F0 ds r _ hr => by
  obtain ⟨value1, y, rfl, hy, rfl⟩ := hr
  exact (j__law_is_integer C cdv B F0 value1).body hy
def R__law_is (ds : List PyData) (r : PyData) : Prop := ∃ v d y, ds = [v, d] ∧ m__law_is v d = some y ∧ r = eB y
def RLk (k : Nat) (ds : List PyData) (r : PyData) : Prop := ∃ v d, ds = [v, d] ∧ okD k d = true ∧ r = .bool (lawIs v d)
theorem j__law_is (C : Gl K mg base tabs) (G0 : Known P w K mg base tabs 1 "_law_is_integer" 1 R__law_is_integer) (cdv : Value) (B F0 : Hp) (lv : Nat) (hlv : 1 ≤ lv) (v d : PyData)
    (hG : ∀ ds, d = .tuple ds ∨ d = .list ds → ds.length ≤ 8388608 ∧ ∃ Rk, Known P w K mg base tabs lv "_law_is" 2 Rk ∧ ∀ e ∈ ds, ∀ v, Rk [v, e] (.bool (lawIs v e))) (hd : ∀ x, d ≠ .dict x) :
    J (Stat.of P w K mg base ["value", "due", "at"] (defScope s__law_is) lv tabs cdv B F0) [.sh v, .sh d, .un] (defBody s__law_is) (pT eB) (some (lawIs v d)) := by
  cases d with
  | none =>
    refine j_ifT (TJ.of (t_cmp (c_isN (e_var (i := 1) rfl (.inr (.inl rfl)) rfl)) (nomark _)) rfl) ?_
    exact j_ret (e_cmp (c_isN (e_var (i := 0) rfl (.inr (.inl rfl)) rfl)) (nomark _)) (by rw [lawIs]; rfl)
  | bool b =>
    refine j_ifF (TJ.of (t_cmp (c_isN (e_var (i := 1) rfl (.inr (.inl rfl)) rfl)) (nomark _)) rfl) ?_
    refine j_ifT (TJ.of (t_val (e_isi rfl C.b_isinstance rfl C.b_bool rfl (e_var (i := 1) rfl (.inr (.inl rfl)) rfl) (fun _ _ => rfl) (kit_bool _) (fun _ => rfl) (by decide) rfl) (fun _ _ => rfl)) rfl) ?_
    by_cases hv : isInst "bool" v = true
    · obtain ⟨c, rfl⟩ := is_bool hv
      exact j_ret (d := .bool (true && decide (c = b))) (e_and (k := true) (EJ.of (e_isi rfl C.b_isinstance rfl C.b_bool rfl (e_var (i := 0) rfl (.inr (.inl rfl)) rfl) (fun _ _ => rfl) (kit_bool _) (fun _ => rfl) (by decide) rfl) rfl) fun _ => e_one (e_cmp (c_eqB (e_var (i := 0) rfl (.inr (.inl rfl)) rfl) (e_var (i := 1) rfl (.inr (.inl rfl)) rfl)) (nomark _))) (by rw [lawIs]; rfl)
    · have hv' : isInst "bool" v = false := Bool.eq_false_iff.mpr hv
      exact j_ret (d := .bool (false && false)) (e_and (k := false) (EJ.of (e_isi rfl C.b_isinstance rfl C.b_bool rfl (e_var (i := 0) rfl (.inr (.inl rfl)) rfl) (fun _ _ => rfl) (kit_bool _) (fun _ => rfl) (by decide) rfl) (by rw [hv'])) fun z => by cases z) (by rw [no_bool hv']; rfl)
  | int b =>
    refine j_ifF (TJ.of (t_cmp (c_isN (e_var (i := 1) rfl (.inr (.inl rfl)) rfl)) (nomark _)) rfl) ?_
    refine j_ifF (TJ.of (t_val (e_isi rfl C.b_isinstance rfl C.b_bool rfl (e_var (i := 1) rfl (.inr (.inl rfl)) rfl) (fun _ _ => rfl) (kit_bool _) (fun _ => rfl) (by decide) rfl) (fun _ _ => rfl)) rfl) ?_
    refine j_ifT (TJ.of (t_val (e_isi rfl C.b_isinstance rfl C.b_int rfl (e_var (i := 1) rfl (.inr (.inl rfl)) rfl) (fun _ _ => rfl) (kit_int _) (fun _ => rfl) (by decide) rfl) (fun _ _ => rfl)) rfl) ?_
    by_cases hv : (isInst "int" v && !isInst "bool" v) = true
    · obtain ⟨c, rfl⟩ := is_int hv
      exact j_ret (d := .bool (true && decide (c = b))) (e_and (k := true) (e_callK G0 hlv rfl (a_cons (e_var (i := 0) rfl (.inr (.inl rfl)) rfl) a_nil (fun _ _ => rfl)) ⟨_, _, rfl, rfl, rfl⟩ rfl (fun _ _ => rfl) (fun _ => rfl) (by decide)) fun _ => e_one (e_cmp (c_eqI (e_var (i := 0) rfl (.inr (.inl rfl)) rfl) (e_var (i := 1) rfl (.inr (.inl rfl)) rfl)) (nomark _))) (by rw [lawIs]; rfl)
    · have hv' : (isInst "int" v && !isInst "bool" v) = false := Bool.eq_false_iff.mpr hv
      exact j_ret (d := .bool (false && false)) (e_and (k := false) (e_callK G0 hlv rfl (a_cons (e_var (i := 0) rfl (.inr (.inl rfl)) rfl) a_nil (fun _ _ => rfl)) ⟨v, _, rfl, rfl, by rw [show (isInst "int" (eD v) && !isInst "bool" (eD v)) = false from hv']⟩ rfl (fun _ _ => rfl) (fun _ => rfl) (by decide)) fun z => by cases z) (by rw [no_int hv']; rfl)
  | str b =>
    refine j_ifF (TJ.of (t_cmp (c_isN (e_var (i := 1) rfl (.inr (.inl rfl)) rfl)) (nomark _)) rfl) ?_
    refine j_ifF (TJ.of (t_val (e_isi rfl C.b_isinstance rfl C.b_bool rfl (e_var (i := 1) rfl (.inr (.inl rfl)) rfl) (fun _ _ => rfl) (kit_bool _) (fun _ => rfl) (by decide) rfl) (fun _ _ => rfl)) rfl) ?_
    refine j_ifF (TJ.of (t_val (e_isi rfl C.b_isinstance rfl C.b_int rfl (e_var (i := 1) rfl (.inr (.inl rfl)) rfl) (fun _ _ => rfl) (kit_int _) (fun _ => rfl) (by decide) rfl) (fun _ _ => rfl)) rfl) ?_
    refine j_ifT (TJ.of (t_val (e_isi rfl C.b_isinstance rfl C.b_str rfl (e_var (i := 1) rfl (.inr (.inl rfl)) rfl) (fun _ _ => rfl) (kit_str _) (fun _ => rfl) (by decide) rfl) (fun _ _ => rfl)) rfl) ?_
    by_cases hv : isInst "str" v = true
    · obtain ⟨c, rfl⟩ := is_str hv
      exact j_ret (d := .bool (true && decide (c = b))) (e_and (k := true) (EJ.of (e_isi rfl C.b_isinstance rfl C.b_str rfl (e_var (i := 0) rfl (.inr (.inl rfl)) rfl) (fun _ _ => rfl) (kit_str _) (fun _ => rfl) (by decide) rfl) rfl) fun _ => e_one (e_cmp (c_eqStr (e_var (i := 0) rfl (.inr (.inl rfl)) rfl) (e_var (i := 1) rfl (.inr (.inl rfl)) rfl)) (nomark _))) (by rw [lawIs]; rfl)
    · have hv' : isInst "str" v = false := Bool.eq_false_iff.mpr hv
      exact j_ret (d := .bool (false && false)) (e_and (k := false) (EJ.of (e_isi rfl C.b_isinstance rfl C.b_str rfl (e_var (i := 0) rfl (.inr (.inl rfl)) rfl) (fun _ _ => rfl) (kit_str _) (fun _ => rfl) (by decide) rfl) (by rw [hv'])) fun z => by cases z) (by rw [no_str hv']; rfl)
  | tuple ds =>
    refine j_ifF (TJ.of (t_cmp (c_isN (e_var (i := 1) rfl (.inr (.inl rfl)) rfl)) (nomark _)) rfl) ?_
    refine j_ifF (TJ.of (t_val (e_isi rfl C.b_isinstance rfl C.b_bool rfl (e_var (i := 1) rfl (.inr (.inl rfl)) rfl) (fun _ _ => rfl) (kit_bool _) (fun _ => rfl) (by decide) rfl) (fun _ _ => rfl)) rfl) ?_
    refine j_ifF (TJ.of (t_val (e_isi rfl C.b_isinstance rfl C.b_int rfl (e_var (i := 1) rfl (.inr (.inl rfl)) rfl) (fun _ _ => rfl) (kit_int _) (fun _ => rfl) (by decide) rfl) (fun _ _ => rfl)) rfl) ?_
    refine j_ifF (TJ.of (t_val (e_isi rfl C.b_isinstance rfl C.b_str rfl (e_var (i := 1) rfl (.inr (.inl rfl)) rfl) (fun _ _ => rfl) (kit_str _) (fun _ => rfl) (by decide) rfl) (fun _ _ => rfl)) rfl) ?_
    obtain ⟨hl, Rk, GK, hR⟩ := hG ds (.inl rfl)
    by_cases hv : isInst "tuple" v = true
    · obtain ⟨vs, rfl⟩ := is_tup hv
      by_cases hn : vs.length = ds.length
      · refine j_ifF (TJ.of (t_w (w_or (t_not (t_val (e_isi rfl C.b_isinstance rfl C.b_tuple rfl (e_var (i := 0) rfl (.inr (.inl rfl)) rfl) (fun _ _ => rfl) (kit_tuple _) (fun _ => rfl) (by decide) rfl) (fun _ _ => rfl))) fun _ => w_or1 (t_cmp (c_neI (e_len rfl C.b_len (e_var (i := 0) rfl (.inr (.inl rfl)) rfl).qt (fun _ _ => rfl)) (e_len rfl C.b_len (e_var (i := 1) rfl (.inr (.inl rfl)) rfl).qt (fun _ _ => rfl))) (nomark _)))) ?_) ?_
        · rw [hn, decide_eq_true rfl]; rfl
        · refine j_ret (e_all (bs := (vs.zip ds).map fun p => lawIs p.1 p.2) rfl C.b_all (FJ.q (f_lc (own := [("at", 2)]) (enc := eI) (encB := eB) (xs := rng 0 (ds.length : Int)) (f := fun i => (atI (vs.zip ds) i).bind fun p => some (some (lawIs p.1 p.2)))
            (IW.x (i_range1 rfl C.b_range (e_len rfl C.b_len (e_var (i := 1) rfl (.inr (.inl rfl)) rfl).qt (fun _ _ => rfl)) (fun _ _ => rfl) ⟨by decide, by decide, by omega, by omega⟩))
            (fun i hi => cb_bind fun p hp => cb0T (g_name (i := 2) ⟨nd__law_is, rfl, .inl rfl, .inr rfl⟩) (by decide)
              (e_callK GK (Nat.le_refl _) rfl (a_cons (e_ix (e_var (i := 0) rfl (.inr (.inl rfl)) rfl).qt (e_var (i := 2) rfl (.inl rfl) rfl) (atI_zip (mem_rng.mp hi).1 hp).1 (fun _ _ => rfl)) (a_cons (e_ix (e_var (i := 1) rfl (.inr (.inl rfl)) rfl).qt (e_var (i := 2) rfl (.inl rfl) rfl) (atI_zip (mem_rng.mp hi).1 hp).2 (fun _ _ => rfl)) a_nil (fun _ _ => rfl)) (fun _ _ => rfl))
                (hR _ (mem_at (atI_zip (mem_rng.mp hi).1 hp).2) _) rfl (fun _ _ => rfl) (fun _ => rfl) (by decide)))
            (compM_at (by rw [List.length_zip, hn, Nat.min_self])) nd__law_is rfl (by decide) (fun _ _ => rfl))) (fun _ _ => rfl)) ?_
          rw [lawAll_zip hn]
          show _ = PyData.bool _
          rw [lawIs]
      · refine j_ifT (TJ.of (t_w (w_or (t_not (t_val (e_isi rfl C.b_isinstance rfl C.b_tuple rfl (e_var (i := 0) rfl (.inr (.inl rfl)) rfl) (fun _ _ => rfl) (kit_tuple _) (fun _ => rfl) (by decide) rfl) (fun _ _ => rfl))) fun _ => w_or1 (t_cmp (c_neI (e_len rfl C.b_len (e_var (i := 0) rfl (.inr (.inl rfl)) rfl).qt (fun _ _ => rfl)) (e_len rfl C.b_len (e_var (i := 1) rfl (.inr (.inl rfl)) rfl).qt (fun _ _ => rfl))) (nomark _)))) ?_) ?_
        · rw [decide_eq_false (by omega)]; simp
        · exact j_ret e_bl (by rw [lawIs, lawAll_len hn]; rfl)
    · have hv' : isInst "tuple" v = false := Bool.eq_false_iff.mpr hv
      refine j_ifT (TJ.of (t_w (w_or (k := true) (l := true) (TJ.of (t_not (t_val (e_isi rfl C.b_isinstance rfl C.b_tuple rfl (e_var (i := 0) rfl (.inr (.inl rfl)) rfl) (fun _ _ => rfl) (kit_tuple _) (fun _ => rfl) (by decide) rfl) (fun _ _ => rfl))) (by rw [hv']; rfl)) fun z => by cases z)) rfl) ?_
      exact j_ret e_bl (by rw [(no_tup hv').1]; rfl)
  | list ds =>
    refine j_ifF (TJ.of (t_cmp (c_isN (e_var (i := 1) rfl (.inr (.inl rfl)) rfl)) (nomark _)) rfl) ?_
    refine j_ifF (TJ.of (t_val (e_isi rfl C.b_isinstance rfl C.b_bool rfl (e_var (i := 1) rfl (.inr (.inl rfl)) rfl) (fun _ _ => rfl) (kit_bool _) (fun _ => rfl) (by decide) rfl) (fun _ _ => rfl)) rfl) ?_
    refine j_ifF (TJ.of (t_val (e_isi rfl C.b_isinstance rfl C.b_int rfl (e_var (i := 1) rfl (.inr (.inl rfl)) rfl) (fun _ _ => rfl) (kit_int _) (fun _ => rfl) (by decide) rfl) (fun _ _ => rfl)) rfl) ?_
    refine j_ifF (TJ.of (t_val (e_isi rfl C.b_isinstance rfl C.b_str rfl (e_var (i := 1) rfl (.inr (.inl rfl)) rfl) (fun _ _ => rfl) (kit_str _) (fun _ => rfl) (by decide) rfl) (fun _ _ => rfl)) rfl) ?_
    obtain ⟨hl, Rk, GK, hR⟩ := hG ds (.inr rfl)
    by_cases hv : isInst "tuple" v = true
    · obtain ⟨vs, rfl⟩ := is_tup hv
      by_cases hn : vs.length = ds.length
      · refine j_ifF (TJ.of (t_w (w_or (t_not (t_val (e_isi rfl C.b_isinstance rfl C.b_tuple rfl (e_var (i := 0) rfl (.inr (.inl rfl)) rfl) (fun _ _ => rfl) (kit_tuple _) (fun _ => rfl) (by decide) rfl) (fun _ _ => rfl))) fun _ => w_or1 (t_cmp (c_neI (e_len rfl C.b_len (e_var (i := 0) rfl (.inr (.inl rfl)) rfl).qt (fun _ _ => rfl)) (e_len rfl C.b_len (e_var (i := 1) rfl (.inr (.inl rfl)) rfl).ql (fun _ _ => rfl))) (nomark _)))) ?_) ?_
        · rw [hn, decide_eq_true rfl]; rfl
        · refine j_ret (e_all (bs := (vs.zip ds).map fun p => lawIs p.1 p.2) rfl C.b_all (FJ.q (f_lc (own := [("at", 2)]) (enc := eI) (encB := eB) (xs := rng 0 (ds.length : Int)) (f := fun i => (atI (vs.zip ds) i).bind fun p => some (some (lawIs p.1 p.2)))
            (IW.x (i_range1 rfl C.b_range (e_len rfl C.b_len (e_var (i := 1) rfl (.inr (.inl rfl)) rfl).ql (fun _ _ => rfl)) (fun _ _ => rfl) ⟨by decide, by decide, by omega, by omega⟩))
            (fun i hi => cb_bind fun p hp => cb0T (g_name (i := 2) ⟨nd__law_is, rfl, .inl rfl, .inr rfl⟩) (by decide)
              (e_callK GK (Nat.le_refl _) rfl (a_cons (e_ix (e_var (i := 0) rfl (.inr (.inl rfl)) rfl).qt (e_var (i := 2) rfl (.inl rfl) rfl) (atI_zip (mem_rng.mp hi).1 hp).1 (fun _ _ => rfl)) (a_cons (e_ix (e_var (i := 1) rfl (.inr (.inl rfl)) rfl).ql (e_var (i := 2) rfl (.inl rfl) rfl) (atI_zip (mem_rng.mp hi).1 hp).2 (fun _ _ => rfl)) a_nil (fun _ _ => rfl)) (fun _ _ => rfl))
                (hR _ (mem_at (atI_zip (mem_rng.mp hi).1 hp).2) _) rfl (fun _ _ => rfl) (fun _ => rfl) (by decide)))
            (compM_at (by rw [List.length_zip, hn, Nat.min_self])) nd__law_is rfl (by decide) (fun _ _ => rfl))) (fun _ _ => rfl)) ?_
          rw [lawAll_zip hn]
          show _ = PyData.bool _
          rw [lawIs]
      · refine j_ifT (TJ.of (t_w (w_or (t_not (t_val (e_isi rfl C.b_isinstance rfl C.b_tuple rfl (e_var (i := 0) rfl (.inr (.inl rfl)) rfl) (fun _ _ => rfl) (kit_tuple _) (fun _ => rfl) (by decide) rfl) (fun _ _ => rfl))) fun _ => w_or1 (t_cmp (c_neI (e_len rfl C.b_len (e_var (i := 0) rfl (.inr (.inl rfl)) rfl).qt (fun _ _ => rfl)) (e_len rfl C.b_len (e_var (i := 1) rfl (.inr (.inl rfl)) rfl).ql (fun _ _ => rfl))) (nomark _)))) ?_) ?_
        · rw [decide_eq_false (by omega)]; simp
        · exact j_ret e_bl (by rw [lawIs, lawAll_len hn]; rfl)
    · have hv' : isInst "tuple" v = false := Bool.eq_false_iff.mpr hv
      refine j_ifT (TJ.of (t_w (w_or (k := true) (l := true) (TJ.of (t_not (t_val (e_isi rfl C.b_isinstance rfl C.b_tuple rfl (e_var (i := 0) rfl (.inr (.inl rfl)) rfl) (fun _ _ => rfl) (kit_tuple _) (fun _ => rfl) (by decide) rfl) (fun _ _ => rfl))) (by rw [hv']; rfl)) fun z => by cases z)) rfl) ?_
      exact j_ret e_bl (by rw [(no_tup hv').2]; rfl)
  | dict x => exact absurd rfl (hd x)
theorem okD_seq {k : Nat} {d : PyData} {ds : List PyData} (h : okD k d = true) (e : d = .tuple ds ∨ d = .list ds) : ∃ k', k = k' + 1 ∧ ds.length ≤ 8388608 ∧ ∀ x ∈ ds, okD k' x = true := by
  cases k with
  | zero => rcases e with rfl | rfl <;> exact absurd h (by simp [okD])
  | succ k =>
    refine ⟨k, rfl, ?_⟩
    rcases e with rfl | rfl <;> (simp only [okD, Bool.and_eq_true, decide_eq_true_eq, List.all_eq_true] at h; exact h)
theorem okD_dict {k : Nat} {x : List (PyData × PyData)} : okD k (.dict x) ≠ true := by cases k <;> simp [okD]
theorem okk__law_is (C : Gl K mg base tabs) (G0 : Known P w K mg base tabs 1 "_law_is_integer" 1 R__law_is_integer) : ∀ k, Known P w K mg base tabs (k + 2) "_law_is" 2 (RLk k)
  | k => by
    refine known_of (k := k + 1) C.d__law_is sc__law_is fun cdv B F0 ds r _ hr => ?_
    obtain ⟨v, d, rfl, hk, rfl⟩ := hr
    refine (j__law_is C G0 cdv B F0 (k + 1) (Nat.le_add_left 1 k) v d (fun ds e => ?_) fun x e => okD_dict (e ▸ hk)).body rfl
    obtain ⟨k', rfl, h1, h2⟩ := okD_seq hk e
    exact ⟨h1, RLk k', okk__law_is C G0 k', fun e he v => ⟨v, e, rfl, h2 e he, rfl⟩⟩
theorem ok__law_is (C : Gl K mg base tabs) : Known P w K mg base tabs 8 "_law_is" 2 R__law_is := by
  refine known_of (k := 7) C.d__law_is sc__law_is fun cdv B F0 ds r _ hr => ?_
  obtain ⟨v, d, y, rfl, hy, rfl⟩ := hr
  unfold m__law_is at hy
  split at hy
  · rename_i hk
    cases hy
    refine (j__law_is C (ok__law_is_integer C) cdv B F0 7 (by decide) v d (fun ds e => ?_) fun x e => okD_dict (e ▸ hk)).body rfl
    obtain ⟨k', ek, h1, h2⟩ := okD_seq hk e
    obtain rfl : k' = 5 := by omega
    exact ⟨h1, RLk 5, okk__law_is C (ok__law_is_integer C) 5, fun e he v => ⟨v, e, rfl, h2 e he, rfl⟩⟩
  · cases hy

def R__law_bent_row (ds : List PyData) (r : PyData) : Prop := ∃ (row1 : (List (Int × Int))), ∃ (draws2 : (List Int)), ∃ (items3 : (List (Int × Int))), ∃ y, ds = [(eT (eP2 eI eI)) row1, (eL eI) draws2, (eL (eP2 eI eI)) items3] ∧ m__law_bent_row row1 draws2 items3 = some y ∧ r = (eT (eP2 eI eI)) y
theorem j__law_bent_row (C : Gl K mg base tabs) (cdv : Value) (B F0 : Hp) (row1 : (List (Int × Int))) (draws2 : (List Int)) (items3 : (List (Int × Int))) : J (Stat.of P w K mg base ["row", "draws", "items", "way", "at", "odd"] (defScope s__law_bent_row) 0 tabs cdv B F0) [.sh ((eT (eP2 eI eI)) row1), .sh ((eL eI) draws2), .sh ((eL (eP2 eI eI)) items3), .un, .un, .un] (defBody s__law_bent_row) (pT (eT (eP2 eI eI))) (m__law_bent_row row1 draws2 items3) := by
  unfold m__law_bent_row
  refine j_bind fun t4 ht4 => ?_
  refine j_bind fun way5 hway5 => ?_
  refine j_set (i := 3) ⟨nd__law_bent_row, rfl, .inl rfl, .inr rfl⟩ (EJ.of (e_mod (e_int1 rfl C.b_int (e_ixT (enc := eI) (xs := draws2) (EJ.ql (e_var (i := 1) rfl (.inl rfl) rfl)) e_int ht4 (fun _ _ => rfl)) (fun _ _ => rfl)) e_int (by decide)) (congrArg eI (Option.some.inj hway5))) (fun _ _ => rfl) ?_
  refine j_bind fun t6 ht6 => ?_
  refine j_bind fun at8 hat8 => ?_
  refine j_set (i := 4) ⟨nd__law_bent_row, rfl, .inl rfl, .inr rfl⟩ (e_modO (e_int1 rfl C.b_int (e_ixT (enc := eI) (xs := draws2) (EJ.ql (e_var (i := 1) rfl (.inl rfl) rfl)) e_int ht6 (fun _ _ => rfl)) (fun _ _ => rfl)) (e_add (e_lenT (enc := (eP2 eI eI)) (xs := row1) rfl C.b_len (EJ.qt (e_var (i := 0) rfl (.inl rfl) rfl)) (fun _ _ => rfl)) e_int) hat8) (fun _ _ => rfl) ?_
  refine j_bind fun t9 ht9 => ?_
  refine j_bind fun t10 ht10 => ?_
  refine j_bind fun odd12 hodd12 => ?_
  refine j_set (i := 5) ⟨nd__law_bent_row, rfl, .inl rfl, .inr rfl⟩ (e_ixT (enc := (eP2 eI eI)) (xs := items3) (EJ.ql (e_var (i := 2) rfl (.inl rfl) rfl)) (e_modO (e_int1 rfl C.b_int (e_ixT (enc := eI) (xs := draws2) (EJ.ql (e_var (i := 1) rfl (.inl rfl) rfl)) e_int ht9 (fun _ _ => rfl)) (fun _ _ => rfl)) (e_lenT (enc := (eP2 eI eI)) (xs := items3) rfl C.b_len (EJ.ql (e_var (i := 2) rfl (.inl rfl) rfl)) (fun _ _ => rfl)) ht10) hodd12 (fun _ _ => rfl)) (fun _ _ => rfl) ?_
  refine j_ifR (t_cmp (c_eqI (e_var (i := 3) rfl (.inl rfl) rfl) e_int) (nomark _)) (fun hc => ?_) (fun hc => ?_)
  · refine j_bind fun t13 ht13 => ?_
    exact j_ret (e_catO (enc := (eP2 eI eI)) (e_slTT (enc := (eP2 eI eI)) (e_var (i := 0) rfl (.inl rfl) rfl) o_none (o_some (e_var (i := 4) rfl (.inl rfl) rfl))) (e_slTT (enc := (eP2 eI eI)) (e_var (i := 0) rfl (.inl rfl) rfl) (o_some (e_add (e_var (i := 4) rfl (.inl rfl) rfl) e_int)) o_none) ht13) rfl
  · refine j_ifR (t_cmp (c_eqI (e_var (i := 3) rfl (.inl rfl) rfl) e_int) (nomark _)) (fun hc => ?_) (fun hc => ?_)
    · refine j_bind fun t14 ht14 => ?_
      refine j_bind fun t15 ht15 => ?_
      exact j_ret (e_catO (enc := (eP2 eI eI)) (e_catO (enc := (eP2 eI eI)) (e_slTT (enc := (eP2 eI eI)) (e_var (i := 0) rfl (.inl rfl) rfl) o_none (o_some (e_var (i := 4) rfl (.inl rfl) rfl))) (EJ.of (d' := ((eT (eP2 eI eI)) [odd12])) (e_tup (a_cons (e_var (i := 5) rfl (.inl rfl) rfl) a_nil (fun _ _ => rfl)) (len_le (n := 1) rfl (by decide))) rfl) ht14) (e_slTT (enc := (eP2 eI eI)) (e_var (i := 0) rfl (.inl rfl) rfl) (o_some (e_var (i := 4) rfl (.inl rfl) rfl)) o_none) ht15) rfl
    · refine j_ifR (t_cmp (c_lt (e_var (i := 3) rfl (.inl rfl) rfl) e_int) (nomark _)) (fun hc => ?_) (fun hc => ?_)
      · refine j_bind fun t16 ht16 => ?_
        refine j_bind fun t17 ht17 => ?_
        exact j_ret (e_catO (enc := (eP2 eI eI)) (e_catO (enc := (eP2 eI eI)) (e_slTT (enc := (eP2 eI eI)) (e_var (i := 0) rfl (.inl rfl) rfl) o_none (o_some (e_var (i := 4) rfl (.inl rfl) rfl))) (EJ.of (d' := ((eT (eP2 eI eI)) [odd12])) (e_tup (a_cons (e_var (i := 5) rfl (.inl rfl) rfl) a_nil (fun _ _ => rfl)) (len_le (n := 1) rfl (by decide))) rfl) ht16) (e_slTT (enc := (eP2 eI eI)) (e_var (i := 0) rfl (.inl rfl) rfl) (o_some (e_add (e_var (i := 4) rfl (.inl rfl) rfl) e_int)) o_none) ht17) rfl
      · refine j_bind fun t19 ht19 => ?_
        exact j_ret (EO.elim (eo_if (encB := (eT (eP2 eI eI))) (t_cmp (c_eqI (e_var (i := 3) rfl (.inl rfl) rfl) e_int) (nomark _)) (fun _ => (eo_some (encB := (eT (eP2 eI eI))) (e_revTT (enc := (eP2 eI eI)) (e_var (i := 0) rfl (.inl rfl) rfl)))) (fun _ => (eo_bind fun t18 ht18 => (eo_some (encB := (eT (eP2 eI eI))) (e_catO (enc := (eP2 eI eI)) (e_slTT (enc := (eP2 eI eI)) (e_var (i := 0) rfl (.inl rfl) rfl) o_none (o_some (e_var (i := 4) rfl (.inl rfl) rfl))) (e_slTT (enc := (eP2 eI eI)) (e_var (i := 0) rfl (.inl rfl) rfl) (o_some (e_max2 rfl C.b_max e_int (e_sub (e_var (i := 4) rfl (.inl rfl) rfl) e_int) (fun _ _ => rfl) (fun _ _ => rfl) (fun _ => rfl))) o_none) ht18))))) ht19) rfl
theorem ok__law_bent_row (C : Gl K mg base tabs) : Known P w K mg base tabs 1 "_law_bent_row" 3 R__law_bent_row := known_of (k := 0) C.d__law_bent_row sc__law_bent_row fun cdv B F0 ds r _ hr => by
  obtain ⟨row1, draws2, items3, y, rfl, hy, rfl⟩ := hr
  exact (j__law_bent_row C cdv B F0 row1 draws2 items3).body hy
def R__law_hidden (ds : List PyData) (r : PyData) : Prop := ∃ (draws1 : (List Int)), ∃ (pace2 : Int), ∃ (last3 : Int), ∃ y, ds = [(eL eI) draws1, eI pace2, eI last3] ∧ m__law_hidden draws1 pace2 last3 = some y ∧ r = (eT (eP2 eI eI)) y
theorem j__law_hidden (C : Gl K mg base tabs) (cdv : Value) (B F0 : Hp) (draws1 : (List Int)) (pace2 : Int) (last3 : Int) : J (Stat.of P w K mg base ["draws", "pace", "last", "cells", "at", "one"] (defScope s__law_hidden) 0 tabs cdv B F0) [.sh ((eL eI) draws1), .sh (eI pace2), .sh (eI last3), .un, .un, .un] (defBody s__law_hidden) (pT (eT (eP2 eI eI))) (m__law_hidden draws1 pace2 last3) := by
  unfold m__law_hidden
  refine j_bind fun t6 ht6 => ?_
  refine j_bind fun t7 ht7 => ?_
  refine j_bind fun cells8 hcells8 => ?_
  refine j_setF (i := 3) ⟨nd__law_hidden, rfl, .inl rfl, .inr rfl⟩ (FJ.of (FJ.of (ds' := List.map (eP2 eI eI) [(((t6 % (12 : Int)) - (4 : Int)), ((t7 % (12 : Int)) - (4 : Int)))]) (f_lst (a_cons (EJ.of (d' := ((eP2 eI eI) (((t6 % (12 : Int)) - (4 : Int)), ((t7 % (12 : Int)) - (4 : Int))))) (e_tup (a_cons (e_sub (e_mod (e_int1 rfl C.b_int (e_ixT (enc := eI) (xs := draws1) (EJ.ql (e_var (i := 0) rfl (.inl rfl) rfl)) e_int ht6 (fun _ _ => rfl)) (fun _ _ => rfl)) e_int (by decide)) e_int) (a_cons (e_sub (e_mod (e_int1 rfl C.b_int (e_ixT (enc := eI) (xs := draws1) (EJ.ql (e_var (i := 0) rfl (.inl rfl) rfl)) e_int ht7 (fun _ _ => rfl)) (fun _ _ => rfl)) e_int (by decide)) e_int) a_nil (fun _ _ => rfl)) (fun _ _ => rfl)) (len_le (n := 2) rfl (by decide))) rfl) a_nil (fun _ _ => rfl)) (len_le (n := 1) rfl (by decide))) rfl) (congrArg (List.map (eP2 eI eI)) (Option.some.inj hcells8))) (fun _ _ => rfl) ?_
  refine j_bind fun r9 hr9 => ?_
  refine j_to (γ2 := [.sh ((eL eI) draws1), .sh (eI pace2), .sh (eI last3), .ow (.list (List.map (eP2 eI eI) cells8)), .un, .un]) rfl ?_
  refine j_for (enc := eI) (xs := r9) (γ0 := fun (s10 : ((List (Int × Int)))) => [.sh ((eL eI) draws1), .sh (eI pace2), .un, .ow (.list (List.map (eP2 eI eI) s10)), .un, .un]) (t0 := (cells8)) (i_range1O rfl C.b_range (e_var (i := 2) rfl (.inl rfl) rfl) (fun _ _ => rfl) hr9) (⟨rfl, ⟨rfl, ⟨rfl, trivial⟩⟩⟩) (fun s10 x11 hx11 => ⟨_, _, (g_name (i := 4) ⟨nd__law_hidden, rfl, .inl rfl, .inr rfl⟩), ?_⟩) (fun s10 => ?_) (fun _ _ => rfl)
  · refine j_bind fun one13 hone13 => ?_
    refine j_set (i := 5) ⟨nd__law_hidden, rfl, .inl rfl, .inr rfl⟩ (e_int1 rfl C.b_int (e_ixT (enc := eI) (xs := draws1) (EJ.ql (e_var (i := 0) rfl (.inl rfl) rfl)) (e_add e_int (e_var (i := 4) rfl (.inl rfl) rfl)) hone13 (fun _ _ => rfl)) (fun _ _ => rfl)) (fun _ _ => rfl) ?_
    refine j_bind fun t14 ht14 => ?_
    refine j_bind fun t15 ht15 => ?_
    refine j_bind fun t16 ht16 => ?_
    refine j_bind fun t17 ht17 => ?_
    refine j_bind fun cells18 hcells18 => ?_
    refine j_appO (j := 3) (enc := (eP2 eI eI)) (xs := s10) (zs := cells18) rfl (.inl rfl) rfl (EJ.of (d' := ((eP2 eI eI) (((t14.1 + t15) - pace2), ((t16.2 + t17) - pace2)))) (e_tup (a_cons (e_sub (e_add (e_ixC (i := 0) (e_ixT (enc := (eP2 eI eI)) (xs := s10) (q_own (i := 3) (ds := List.map (eP2 eI eI) s10) rfl (.inl rfl) rfl) (e_neg e_int) ht14 (fun _ _ => rfl)) rfl) (e_modO (e_var (i := 5) rfl (.inl rfl) rfl) (e_add (e_mul e_int (e_var (i := 1) rfl (.inl rfl) rfl) (.inl (by decide))) e_int) ht15)) (e_var (i := 1) rfl (.inl rfl) rfl)) (a_cons (e_sub (e_add (e_ixC (i := 1) (e_ixT (enc := (eP2 eI eI)) (xs := s10) (q_own (i := 3) (ds := List.map (eP2 eI eI) s10) rfl (.inl rfl) rfl) (e_neg e_int) ht16 (fun _ _ => rfl)) rfl) (e_modO (e_fdiv (e_var (i := 5) rfl (.inl rfl) rfl) e_int ⟨by decide, by decide⟩) (e_add (e_mul e_int (e_var (i := 1) rfl (.inl rfl) rfl) (.inl (by decide))) e_int) ht17)) (e_var (i := 1) rfl (.inl rfl) rfl)) a_nil (fun _ _ => rfl)) (fun _ _ => rfl)) (len_le (n := 2) rfl (by decide))) rfl) hcells18 (fun _ _ => rfl) (by decide) (by decide) (fun _ => rfl) rfl ?_
    refine j_to (γ2 := [.sh ((eL eI) draws1), .sh (eI pace2), .un, .ow (.list (List.map (eP2 eI eI) cells18)), .sh (eI x11), .sh (eI one13)]) rfl ?_
    exact j_nil (⟨rfl, ⟨rfl, ⟨rfl, trivial⟩⟩⟩)
  · exact j_ret (e_tuple (k := .l) rfl C.b_tuple (q_own (i := 3) (ds := List.map (eP2 eI eI) s10) rfl (.inl rfl) rfl) (fun _ _ => rfl)) rfl
theorem ok__law_hidden (C : Gl K mg base tabs) : Known P w K mg base tabs 1 "_law_hidden" 3 R__law_hidden := known_of (k := 0) C.d__law_hidden sc__law_hidden fun cdv B F0 ds r _ hr => by
  obtain ⟨draws1, pace2, last3, y, rfl, hy, rfl⟩ := hr
  exact (j__law_hidden C cdv B F0 draws1 pace2 last3).body hy
def R__law_calls (ds : List PyData) (r : PyData) : Prop := ∃ (draws1 : (List Int)), ∃ (cells2 : (List (Int × Int))), ∃ (free3 : Bool), ∃ y, ds = [(eL eI) draws1, (eT (eP2 eI eI)) cells2, eB free3] ∧ m__law_calls draws1 cells2 free3 = some y ∧ r = (eT (eP4 eI eI eI eI)) y
theorem j__law_calls (C : Gl K mg base tabs) (cdv : Value) (B F0 : Hp) (draws1 : (List Int)) (cells2 : (List (Int × Int))) (free3 : Bool) : J (Stat.of P w K mg base ["draws", "cells", "free", "calls", "at", "one", "d", "time", "own"] (defScope s__law_calls) 0 tabs cdv B F0) [.sh ((eL eI) draws1), .sh ((eT (eP2 eI eI)) cells2), .sh (eB free3), .un, .un, .un, .un, .un, .un] (defBody s__law_calls) (pT (eT (eP4 eI eI eI eI))) (m__law_calls draws1 cells2 free3) := by
  unfold m__law_calls
  refine j_bind fun calls4 hcalls4 => ?_
  refine j_setF (i := 3) ⟨nd__law_calls, rfl, .inl rfl, .inr rfl⟩ (FJ.of (FJ.of (ds' := List.map (eP4 eI eI eI eI) ([] : List (Int × Int × Int × Int))) (f_lst a_nil (len_le (n := 0) rfl (by decide))) rfl) (congrArg (List.map (eP4 eI eI eI eI)) (Option.some.inj hcalls4))) (fun _ _ => rfl) ?_
  refine j_bind fun t5 ht5 => ?_
  refine j_bind fun r6 hr6 => ?_
  refine j_to (γ2 := [.sh ((eL eI) draws1), .sh ((eT (eP2 eI eI)) cells2), .sh (eB free3), .ow (.list (List.map (eP4 eI eI eI eI) calls4)), .un, .un, .un, .un, .un]) rfl ?_
  refine j_for (enc := eI) (xs := r6) (γ0 := fun (s7 : ((List (Int × Int × Int × Int)))) => [.sh ((eL eI) draws1), .sh ((eT (eP2 eI eI)) cells2), .sh (eB free3), .ow (.list (List.map (eP4 eI eI eI eI) s7)), .un, .un, .un, .un, .un]) (t0 := (calls4)) (i_range1O rfl C.b_range (e_add e_int (e_mod (e_int1 rfl C.b_int (e_ixT (enc := eI) (xs := draws1) (EJ.ql (e_var (i := 0) rfl (.inl rfl) rfl)) e_int ht5 (fun _ _ => rfl)) (fun _ _ => rfl)) e_int (by decide))) (fun _ _ => rfl) hr6) (⟨rfl, ⟨rfl, ⟨rfl, ⟨rfl, trivial⟩⟩⟩⟩) (fun s7 x8 hx8 => ⟨_, _, (g_name (i := 4) ⟨nd__law_calls, rfl, .inl rfl, .inr rfl⟩), ?_⟩) (fun s7 => ?_) (fun _ _ => rfl)
  · refine j_bind fun one10 hone10 => ?_
    refine j_set (i := 5) ⟨nd__law_calls, rfl, .inl rfl, .inr rfl⟩ (e_int1 rfl C.b_int (e_ixT (enc := eI) (xs := draws1) (EJ.ql (e_var (i := 0) rfl (.inl rfl) rfl)) (e_add e_int (e_var (i := 4) rfl (.inl rfl) rfl)) hone10 (fun _ _ => rfl)) (fun _ _ => rfl)) (fun _ _ => rfl) ?_
    refine j_bind fun d11 hd11 => ?_
    refine j_set (i := 6) ⟨nd__law_calls, rfl, .inl rfl, .inr rfl⟩ (EJ.of (e_mod (e_var (i := 5) rfl (.inl rfl) rfl) e_int (by decide)) (congrArg eI (Option.some.inj hd11))) (fun _ _ => rfl) ?_
    refine j_bind fun time13 htime13 => ?_
    refine j_set (i := 7) ⟨nd__law_calls, rfl, .inl rfl, .inr rfl⟩ (e_modO (e_fdiv (e_var (i := 5) rfl (.inl rfl) rfl) e_int ⟨by decide, by decide⟩) (e_lenT (enc := (eP2 eI eI)) (xs := cells2) rfl C.b_len (EJ.qt (e_var (i := 1) rfl (.inl rfl) rfl)) (fun _ _ => rfl)) htime13) (fun _ _ => rfl) ?_
    refine j_bind fun t14 ht14 => ?_
    refine j_bind fun t15 ht15 => ?_
    refine j_bind fun t16 ht16 => ?_
    refine j_bind fun t17 ht17 => ?_
    refine j_bind fun own18 hown18 => ?_
    refine j_set (i := 8) ⟨nd__law_calls, rfl, .inl rfl, .inr rfl⟩ (EJ.of (EJ.of (d' := ((eP2 eI eI) (((t14.1 + t15) - d11), ((t16.2 + t17) - d11)))) (e_tup (a_cons (e_sub (e_add (e_ixC (i := 0) (e_ixT (enc := (eP2 eI eI)) (xs := cells2) (EJ.qt (e_var (i := 1) rfl (.inl rfl) rfl)) (e_var (i := 7) rfl (.inl rfl) rfl) ht14 (fun _ _ => rfl)) rfl) (e_modO (e_fdiv (e_var (i := 5) rfl (.inl rfl) rfl) e_int ⟨by decide, by decide⟩) (e_add (e_mul e_int (e_var (i := 6) rfl (.inl rfl) rfl) (.inl (by decide))) e_int) ht15)) (e_var (i := 6) rfl (.inl rfl) rfl)) (a_cons (e_sub (e_add (e_ixC (i := 1) (e_ixT (enc := (eP2 eI eI)) (xs := cells2) (EJ.qt (e_var (i := 1) rfl (.inl rfl) rfl)) (e_var (i := 7) rfl (.inl rfl) rfl) ht16 (fun _ _ => rfl)) rfl) (e_modO (e_fdiv (e_var (i := 5) rfl (.inl rfl) rfl) e_int ⟨by decide, by decide⟩) (e_add (e_mul e_int (e_var (i := 6) rfl (.inl rfl) rfl) (.inl (by decide))) e_int) ht17)) (e_var (i := 6) rfl (.inl rfl) rfl)) a_nil (fun _ _ => rfl)) (fun _ _ => rfl)) (len_le (n := 2) rfl (by decide))) rfl) (congrArg (eP2 eI eI) (Option.some.inj hown18))) (fun _ _ => rfl) ?_
    refine j_ifJ (γj := fun (j22 : ((Int × Int))) => [.sh ((eL eI) draws1), .sh ((eT (eP2 eI eI)) cells2), .sh (eB free3), .ow (.list (List.map (eP4 eI eI eI eI) s7)), .un, .un, .sh (eI d11), .sh (eI time13), .sh ((eP2 eI eI) j22)]) (t_w (w_and (t_val (e_var (i := 2) rfl (.inl rfl) rfl) (fun _ _ => rfl)) fun _ => (w_and1 (t_cmp (c_gt (e_var (i := 4) rfl (.inl rfl) rfl) e_int) (nomark _))))) (fun hc => ?_) (fun hc => ?_) (fun j22 => ?_)
    · refine j_bind fun t23 ht23 => ?_
      refine j_bind fun t24 ht24 => ?_
      refine j_bind fun own25 hown25 => ?_
      refine j_set (i := 8) ⟨nd__law_calls, rfl, .inl rfl, .inr rfl⟩ (EJ.of (EJ.of (d' := ((eP2 eI eI) (((t23 % (15 : Int)) - (5 : Int)), (((t24 / (15 : Int)) % (15 : Int)) - (5 : Int))))) (e_tup (a_cons (e_sub (e_mod (e_int1 rfl C.b_int (e_ixT (enc := eI) (xs := draws1) (EJ.ql (e_var (i := 0) rfl (.inl rfl) rfl)) (e_add e_int (e_var (i := 4) rfl (.inl rfl) rfl)) ht23 (fun _ _ => rfl)) (fun _ _ => rfl)) e_int (by decide)) e_int) (a_cons (e_sub (e_mod (e_fdiv (e_int1 rfl C.b_int (e_ixT (enc := eI) (xs := draws1) (EJ.ql (e_var (i := 0) rfl (.inl rfl) rfl)) (e_add e_int (e_var (i := 4) rfl (.inl rfl) rfl)) ht24 (fun _ _ => rfl)) (fun _ _ => rfl)) e_int ⟨by decide, by decide⟩) e_int (by decide)) e_int) a_nil (fun _ _ => rfl)) (fun _ _ => rfl)) (len_le (n := 2) rfl (by decide))) rfl) (congrArg (eP2 eI eI) (Option.some.inj hown25))) (fun _ _ => rfl) ?_
      refine j_to (γ2 := [.sh ((eL eI) draws1), .sh ((eT (eP2 eI eI)) cells2), .sh (eB free3), .ow (.list (List.map (eP4 eI eI eI eI) s7)), .sh (eI x8), .sh (eI one10), .sh (eI d11), .sh (eI time13), .sh ((eP2 eI eI) own25)]) rfl ?_
      exact j_nil (⟨rfl, ⟨rfl, ⟨rfl, ⟨rfl, ⟨rfl, ⟨rfl, ⟨rfl, trivial⟩⟩⟩⟩⟩⟩⟩)
    · refine j_to (γ2 := [.sh ((eL eI) draws1), .sh ((eT (eP2 eI eI)) cells2), .sh (eB free3), .ow (.list (List.map (eP4 eI eI eI eI) s7)), .sh (eI x8), .sh (eI one10), .sh (eI d11), .sh (eI time13), .sh ((eP2 eI eI) own18)]) rfl ?_
      exact j_nil (⟨rfl, ⟨rfl, ⟨rfl, ⟨rfl, ⟨rfl, ⟨rfl, ⟨rfl, trivial⟩⟩⟩⟩⟩⟩⟩)
    · refine j_bind fun calls26 hcalls26 => ?_
      refine j_appO (j := 3) (enc := (eP4 eI eI eI eI)) (xs := s7) (zs := calls26) rfl (.inl rfl) rfl (EJ.of (d' := ((eP4 eI eI eI eI) (time13, j22.1, j22.2, d11))) (e_tup (a_cons (e_var (i := 7) rfl (.inl rfl) rfl) (a_cons (e_ixC (i := 0) (e_var (i := 8) rfl (.inl rfl) rfl) rfl) (a_cons (e_ixC (i := 1) (e_var (i := 8) rfl (.inl rfl) rfl) rfl) (a_cons (e_var (i := 6) rfl (.inl rfl) rfl) a_nil (fun _ _ => rfl)) (fun _ _ => rfl)) (fun _ _ => rfl)) (fun _ _ => rfl)) (len_le (n := 4) rfl (by decide))) rfl) hcalls26 (fun _ _ => rfl) (by decide) (by decide) (fun _ => rfl) rfl ?_
      refine j_to (γ2 := [.sh ((eL eI) draws1), .sh ((eT (eP2 eI eI)) cells2), .sh (eB free3), .ow (.list (List.map (eP4 eI eI eI eI) calls26)), .un, .un, .sh (eI d11), .sh (eI time13), .sh ((eP2 eI eI) j22)]) rfl ?_
      exact j_nil (⟨rfl, ⟨rfl, ⟨rfl, ⟨rfl, trivial⟩⟩⟩⟩)
  · exact j_ret (e_tuple (k := .l) rfl C.b_tuple (q_own (i := 3) (ds := List.map (eP4 eI eI eI eI) s7) rfl (.inl rfl) rfl) (fun _ _ => rfl)) rfl
theorem ok__law_calls (C : Gl K mg base tabs) : Known P w K mg base tabs 1 "_law_calls" 3 R__law_calls := known_of (k := 0) C.d__law_calls sc__law_calls fun cdv B F0 ds r _ hr => by
  obtain ⟨draws1, cells2, free3, y, rfl, hy, rfl⟩ := hr
  exact (j__law_calls C cdv B F0 draws1 cells2 free3).body hy
def R__law_side (ds : List PyData) (r : PyData) : Prop := ∃ (calls1 : (List (Int × Int × Int × Int))), ∃ (pace2 : Int), ∃ (size3 : Int), ∃ (side4 : Int), ∃ y, ds = [(eT (eP4 eI eI eI eI)) calls1, eI pace2, eI size3, eI side4] ∧ m__law_side calls1 pace2 size3 side4 = some y ∧ r = (eL (eP2 eI eI)) y
theorem j__law_side (C : Gl K mg base tabs) (cdv : Value) (B F0 : Hp) (calls1 : (List (Int × Int × Int × Int))) (pace2 : Int) (size3 : Int) (side4 : Int) : J (Stat.of P w K mg base ["calls", "pace", "size", "side", "low", "high", "call", "at", "turn"] (defScope s__law_side) 0 tabs cdv B F0) [.sh ((eT (eP4 eI eI eI eI)) calls1), .sh (eI pace2), .sh (eI size3), .sh (eI side4), .un, .un, .un, .un, .un] (defBody s__law_side) (pT (eL (eP2 eI eI))) (m__law_side calls1 pace2 size3 side4) := by
  unfold m__law_side
  refine j_bind fun low6 hlow6 => ?_
  refine j_setF (i := 4) ⟨nd__law_side, rfl, .inr rfl, .inl rfl⟩ (f_repO (enc := eI) (f_lst (a_cons (e_sub e_int (EJ.of (d' := .int 1000000) (e_pow e_int e_int ⟨by decide, by decide, by decide⟩) rfl)) a_nil (fun _ _ => rfl)) (len_le (n := 1) rfl (by decide))) (e_var (i := 2) rfl (.inl rfl) rfl) hlow6) (fun _ _ => rfl) ?_
  refine j_bind fun high8 hhigh8 => ?_
  refine j_setF (i := 5) ⟨nd__law_side, rfl, .inr rfl, .inl rfl⟩ (f_repO (enc := eI) (f_lst (a_cons (EJ.of (d' := .int 1000000) (e_pow e_int e_int ⟨by decide, by decide, by decide⟩) rfl) a_nil (fun _ _ => rfl)) (len_le (n := 1) rfl (by decide))) (e_var (i := 2) rfl (.inl rfl) rfl) hhigh8) (fun _ _ => rfl) ?_
  refine j_to (γ2 := [.sh ((eT (eP4 eI eI eI eI)) calls1), .sh (eI pace2), .sh (eI size3), .sh (eI side4), .ow (.list (List.map eI low6)), .ow (.list (List.map eI high8)), .un, .un, .un]) rfl ?_
  refine j_for (enc := (eP4 eI eI eI eI)) (xs := calls1) (γ0 := fun (s9 : ((List Int) × (List Int))) => [.un, .sh (eI pace2), .sh (eI size3), .sh (eI side4), .ow (.list (List.map eI s9.1)), .ow (.list (List.map eI s9.2)), .un, .un, .un]) (t0 := (low6, high8)) (i_tup (e_var (i := 0) rfl (.inl rfl) rfl)) (⟨rfl, ⟨rfl, ⟨rfl, ⟨rfl, ⟨rfl, trivial⟩⟩⟩⟩⟩) (fun s9 x10 hx10 => ⟨_, _, (g_name (i := 6) ⟨nd__law_side, rfl, .inl rfl, .inr rfl⟩), ?_⟩) (fun s9 => ?_) (fun _ _ => rfl)
  · refine j_bind fun t11 ht11 => ?_
    refine j_bind fun t12 ht12 => ?_
    refine j_bind fun low13 hlow13 => ?_
    refine j_setixO (j := 4) (enc := eI) (xs := s9.1) (zs := low13) (v := (max t11 (t12 - x10.2.2.2))) rfl (.inr (.inl rfl)) rfl (e_max2 rfl C.b_max (e_ixT (enc := eI) (xs := s9.1) (q_own (i := 4) (ds := List.map eI s9.1) rfl (.inr (.inl rfl)) rfl) (e_ixC (i := 0) (e_var (i := 6) rfl (.inl rfl) rfl) rfl) ht11 (fun _ _ => rfl)) (e_sub (e_ixT (enc := eI) (xs := [x10.1, x10.2.1, x10.2.2.1, x10.2.2.2]) (EJ.qt (EJ.of (d' := (eT eI) [x10.1, x10.2.1, x10.2.2.1, x10.2.2.2]) (e_var (i := 6) rfl (.inl rfl) rfl) rfl)) (e_var (i := 3) rfl (.inl rfl) rfl) ht12 (fun _ _ => rfl)) (e_ixC (i := 3) (e_var (i := 6) rfl (.inl rfl) rfl) rfl)) (fun _ _ => rfl) (fun _ _ => rfl) (fun _ => rfl)) (e_ixC (i := 0) (e_var (i := 6) rfl (.inl rfl) rfl) rfl) hlow13 (by decide) (by decide) (fun _ _ => rfl) (fun _ => rfl) (fun _ => rfl) (fun _ => rfl) ?_
    refine j_bind fun t14 ht14 => ?_
    refine j_bind fun t15 ht15 => ?_
    refine j_bind fun high16 hhigh16 => ?_
    refine j_setixO (j := 5) (enc := eI) (xs := s9.2) (zs := high16) (v := (min t14 (t15 + x10.2.2.2))) rfl (.inr (.inl rfl)) rfl (e_min2 rfl C.b_min (e_ixT (enc := eI) (xs := s9.2) (q_own (i := 5) (ds := List.map eI s9.2) rfl (.inr (.inl rfl)) rfl) (e_ixC (i := 0) (e_var (i := 6) rfl (.inl rfl) rfl) rfl) ht14 (fun _ _ => rfl)) (e_add (e_ixT (enc := eI) (xs := [x10.1, x10.2.1, x10.2.2.1, x10.2.2.2]) (EJ.qt (EJ.of (d' := (eT eI) [x10.1, x10.2.1, x10.2.2.1, x10.2.2.2]) (e_var (i := 6) rfl (.inl rfl) rfl) rfl)) (e_var (i := 3) rfl (.inl rfl) rfl) ht15 (fun _ _ => rfl)) (e_ixC (i := 3) (e_var (i := 6) rfl (.inl rfl) rfl) rfl)) (fun _ _ => rfl) (fun _ _ => rfl) (fun _ => rfl)) (e_ixC (i := 0) (e_var (i := 6) rfl (.inl rfl) rfl) rfl) hhigh16 (by decide) (by decide) (fun _ _ => rfl) (fun _ => rfl) (fun _ => rfl) (fun _ => rfl) ?_
    refine j_to (γ2 := [.un, .sh (eI pace2), .sh (eI size3), .sh (eI side4), .ow (.list (List.map eI low13)), .ow (.list (List.map eI high16)), .sh ((eP4 eI eI eI eI) x10), .un, .un]) rfl ?_
    exact j_nil (⟨rfl, ⟨rfl, ⟨rfl, ⟨rfl, ⟨rfl, trivial⟩⟩⟩⟩⟩)
  · refine j_bind fun r17 hr17 => ?_
    refine j_to (γ2 := [.un, .sh (eI pace2), .sh (eI size3), .sh (eI side4), .ow (.list (List.map eI s9.1)), .ow (.list (List.map eI s9.2)), .un, .un, .un]) rfl ?_
    refine j_for (enc := eI) (xs := r17) (γ0 := fun (s18 : ((List Int) × (List Int))) => [.un, .sh (eI pace2), .sh (eI size3), .un, .ow (.list (List.map eI s18.1)), .ow (.list (List.map eI s18.2)), .un, .un, .un]) (t0 := (s9.1, s9.2)) (i_range2O rfl C.b_range e_int (e_var (i := 2) rfl (.inl rfl) rfl) (fun _ _ => rfl) (fun _ _ => rfl) hr17) (⟨rfl, ⟨rfl, ⟨rfl, ⟨rfl, trivial⟩⟩⟩⟩) (fun s18 x19 hx19 => ⟨_, _, (g_name (i := 7) ⟨nd__law_side, rfl, .inl rfl, .inr rfl⟩), ?_⟩) (fun s18 => ?_) (fun _ _ => rfl)
    · refine j_bind fun t20 ht20 => ?_
      refine j_bind fun t21 ht21 => ?_
      refine j_bind fun low22 hlow22 => ?_
      refine j_setixO (j := 4) (enc := eI) (xs := s18.1) (zs := low22) (v := (max t20 (t21 - pace2))) rfl (.inr (.inl rfl)) rfl (e_max2 rfl C.b_max (e_ixT (enc := eI) (xs := s18.1) (q_own (i := 4) (ds := List.map eI s18.1) rfl (.inr (.inl rfl)) rfl) (e_var (i := 7) rfl (.inl rfl) rfl) ht20 (fun _ _ => rfl)) (e_sub (e_ixT (enc := eI) (xs := s18.1) (q_own (i := 4) (ds := List.map eI s18.1) rfl (.inr (.inl rfl)) rfl) (e_sub (e_var (i := 7) rfl (.inl rfl) rfl) e_int) ht21 (fun _ _ => rfl)) (e_var (i := 1) rfl (.inl rfl) rfl)) (fun _ _ => rfl) (fun _ _ => rfl) (fun _ => rfl)) (e_var (i := 7) rfl (.inl rfl) rfl) hlow22 (by decide) (by decide) (fun _ _ => rfl) (fun _ => rfl) (fun _ => rfl) (fun _ => rfl) ?_
      refine j_bind fun t23 ht23 => ?_
      refine j_bind fun t24 ht24 => ?_
      refine j_bind fun high25 hhigh25 => ?_
      refine j_setixO (j := 5) (enc := eI) (xs := s18.2) (zs := high25) (v := (min t23 (t24 + pace2))) rfl (.inr (.inl rfl)) rfl (e_min2 rfl C.b_min (e_ixT (enc := eI) (xs := s18.2) (q_own (i := 5) (ds := List.map eI s18.2) rfl (.inr (.inl rfl)) rfl) (e_var (i := 7) rfl (.inl rfl) rfl) ht23 (fun _ _ => rfl)) (e_add (e_ixT (enc := eI) (xs := s18.2) (q_own (i := 5) (ds := List.map eI s18.2) rfl (.inr (.inl rfl)) rfl) (e_sub (e_var (i := 7) rfl (.inl rfl) rfl) e_int) ht24 (fun _ _ => rfl)) (e_var (i := 1) rfl (.inl rfl) rfl)) (fun _ _ => rfl) (fun _ _ => rfl) (fun _ => rfl)) (e_var (i := 7) rfl (.inl rfl) rfl) hhigh25 (by decide) (by decide) (fun _ _ => rfl) (fun _ => rfl) (fun _ => rfl) (fun _ => rfl) ?_
      refine j_to (γ2 := [.un, .sh (eI pace2), .sh (eI size3), .un, .ow (.list (List.map eI low22)), .ow (.list (List.map eI high25)), .un, .sh (eI x19), .un]) rfl ?_
      exact j_nil (⟨rfl, ⟨rfl, ⟨rfl, ⟨rfl, trivial⟩⟩⟩⟩)
    · refine j_bind fun r26 hr26 => ?_
      refine j_to (γ2 := [.un, .sh (eI pace2), .sh (eI size3), .un, .ow (.list (List.map eI s18.1)), .ow (.list (List.map eI s18.2)), .un, .un, .un]) rfl ?_
      refine j_for (enc := eI) (xs := r26) (γ0 := fun (s27 : ((List Int) × (List Int))) => [.un, .sh (eI pace2), .sh (eI size3), .un, .ow (.list (List.map eI s27.1)), .ow (.list (List.map eI s27.2)), .un, .un, .un]) (t0 := (s18.1, s18.2)) (i_range2O rfl C.b_range e_int (e_var (i := 2) rfl (.inl rfl) rfl) (fun _ _ => rfl) (fun _ _ => rfl) hr26) (⟨rfl, ⟨rfl, ⟨rfl, ⟨rfl, trivial⟩⟩⟩⟩) (fun s27 x28 hx28 => ⟨_, _, (g_name (i := 8) ⟨nd__law_side, rfl, .inl rfl, .inr rfl⟩), ?_⟩) (fun s27 => ?_) (fun _ _ => rfl)
      · refine j_bind fun at29 hat29 => ?_
        refine j_set (i := 7) ⟨nd__law_side, rfl, .inl rfl, .inr rfl⟩ (EJ.of (e_sub (e_sub (e_var (i := 2) rfl (.inl rfl) rfl) e_int) (e_var (i := 8) rfl (.inl rfl) rfl)) (congrArg eI (Option.some.inj hat29))) (fun _ _ => rfl) ?_
        refine j_bind fun t30 ht30 => ?_
        refine j_bind fun t31 ht31 => ?_
        refine j_bind fun low32 hlow32 => ?_
        refine j_setixO (j := 4) (enc := eI) (xs := s27.1) (zs := low32) (v := (max t30 (t31 - pace2))) rfl (.inr (.inl rfl)) rfl (e_max2 rfl C.b_max (e_ixT (enc := eI) (xs := s27.1) (q_own (i := 4) (ds := List.map eI s27.1) rfl (.inr (.inl rfl)) rfl) (e_var (i := 7) rfl (.inl rfl) rfl) ht30 (fun _ _ => rfl)) (e_sub (e_ixT (enc := eI) (xs := s27.1) (q_own (i := 4) (ds := List.map eI s27.1) rfl (.inr (.inl rfl)) rfl) (e_add (e_var (i := 7) rfl (.inl rfl) rfl) e_int) ht31 (fun _ _ => rfl)) (e_var (i := 1) rfl (.inl rfl) rfl)) (fun _ _ => rfl) (fun _ _ => rfl) (fun _ => rfl)) (e_var (i := 7) rfl (.inl rfl) rfl) hlow32 (by decide) (by decide) (fun _ _ => rfl) (fun _ => rfl) (fun _ => rfl) (fun _ => rfl) ?_
        refine j_bind fun t33 ht33 => ?_
        refine j_bind fun t34 ht34 => ?_
        refine j_bind fun high35 hhigh35 => ?_
        refine j_setixO (j := 5) (enc := eI) (xs := s27.2) (zs := high35) (v := (min t33 (t34 + pace2))) rfl (.inr (.inl rfl)) rfl (e_min2 rfl C.b_min (e_ixT (enc := eI) (xs := s27.2) (q_own (i := 5) (ds := List.map eI s27.2) rfl (.inr (.inl rfl)) rfl) (e_var (i := 7) rfl (.inl rfl) rfl) ht33 (fun _ _ => rfl)) (e_add (e_ixT (enc := eI) (xs := s27.2) (q_own (i := 5) (ds := List.map eI s27.2) rfl (.inr (.inl rfl)) rfl) (e_add (e_var (i := 7) rfl (.inl rfl) rfl) e_int) ht34 (fun _ _ => rfl)) (e_var (i := 1) rfl (.inl rfl) rfl)) (fun _ _ => rfl) (fun _ _ => rfl) (fun _ => rfl)) (e_var (i := 7) rfl (.inl rfl) rfl) hhigh35 (by decide) (by decide) (fun _ _ => rfl) (fun _ => rfl) (fun _ => rfl) (fun _ => rfl) ?_
        refine j_to (γ2 := [.un, .sh (eI pace2), .sh (eI size3), .un, .ow (.list (List.map eI low32)), .ow (.list (List.map eI high35)), .un, .sh (eI at29), .sh (eI x28)]) rfl ?_
        exact j_nil (⟨rfl, ⟨rfl, ⟨rfl, ⟨rfl, trivial⟩⟩⟩⟩)
      · refine j_bind fun r36 hr36 => ?_
        refine j_bind fun l40 hl40 => ?_
        exact j_ret (FJ.ej (f_lc (own := [("at", 7)]) (enc := eI) (encB := (eP2 eI eI)) (xs := r36) (f := (fun (x37 : Int) => ((atI s27.1 x37).bind fun t38 => ((atI s27.2 x37).bind fun t39 => (some (some (t38, t39))))))) (IW.x (i_range1O rfl C.b_range (e_var (i := 2) rfl (.inl rfl) rfl) (fun _ _ => rfl) hr36)) (fun x37 _ => (cb_bind fun t38 ht38 => (cb_bind fun t39 ht39 => (cb0T (y := (t38, t39)) (g_name (i := 7) ⟨nd__law_side, rfl, .inl rfl, .inr rfl⟩) (by decide) (EJ.of (d' := ((eP2 eI eI) (t38, t39))) (e_tup (a_cons (e_ixT (enc := eI) (xs := s27.1) (q_own (i := 4) (ds := List.map eI s27.1) rfl (.inr (.inl rfl)) rfl) (e_var (i := 7) rfl (.inl rfl) rfl) ht38 (fun _ _ => rfl)) (a_cons (e_ixT (enc := eI) (xs := s27.2) (q_own (i := 5) (ds := List.map eI s27.2) rfl (.inr (.inl rfl)) rfl) (e_var (i := 7) rfl (.inl rfl) rfl) ht39 (fun _ _ => rfl)) a_nil (fun _ _ => rfl)) (fun _ _ => rfl)) (len_le (n := 2) rfl (by decide))) rfl))))) hl40 nd__law_side rfl (by decide) (fun _ _ => rfl))) rfl
theorem ok__law_side (C : Gl K mg base tabs) : Known P w K mg base tabs 1 "_law_side" 4 R__law_side := known_of (k := 0) C.d__law_side sc__law_side fun cdv B F0 ds r _ hr => by
  obtain ⟨calls1, pace2, size3, side4, y, rfl, hy, rfl⟩ := hr
  exact (j__law_side C cdv B F0 calls1 pace2 size3 side4).body hy
def R__law_quarrel (ds : List PyData) (r : PyData) : Prop := ∃ (calls1 : (List (Int × Int × Int × Int))), ∃ (pace2 : Int), ∃ y, ds = [(eT (eP4 eI eI eI eI)) calls1, eI pace2] ∧ m__law_quarrel calls1 pace2 = some y ∧ r = eB y
theorem j__law_quarrel (C : Gl K mg base tabs) (cdv : Value) (B F0 : Hp) (calls1 : (List (Int × Int × Int × Int))) (pace2 : Int) : J (Stat.of P w K mg base ["calls", "pace", "j", "i", "room"] (defScope s__law_quarrel) 0 tabs cdv B F0) [.sh ((eT (eP4 eI eI eI eI)) calls1), .sh (eI pace2), .un, .un, .un] (defBody s__law_quarrel) (pT eB) (m__law_quarrel calls1 pace2) := by
  unfold m__law_quarrel
  refine j_bind fun r3 hr3 => ?_
  refine j_to (γ2 := [.sh ((eT (eP4 eI eI eI eI)) calls1), .sh (eI pace2), .un, .un, .un]) rfl ?_
  refine j_forR (enc := eI) (xs := r3) (encR := eB) (γ0 := fun (s4 : Unit) => [.sh ((eT (eP4 eI eI eI eI)) calls1), .sh (eI pace2), .un, .un, .un]) (t0 := ()) (i_range1O rfl C.b_range (e_lenT (enc := (eP4 eI eI eI eI)) (xs := calls1) rfl C.b_len (EJ.qt (e_var (i := 0) rfl (.inl rfl) rfl)) (fun _ _ => rfl)) (fun _ _ => rfl) hr3) (⟨rfl, ⟨rfl, trivial⟩⟩) (fun s4 x5 hx5 => ⟨_, _, (g_name (i := 2) ⟨nd__law_quarrel, rfl, .inl rfl, .inr rfl⟩), ?_⟩) (fun _ => rfl) (fun s4 => ?_) (fun _ _ => rfl)
  · refine j_bind fun r6 hr6 => ?_
    refine j_to (γ2 := [.sh ((eT (eP4 eI eI eI eI)) calls1), .sh (eI pace2), .sh (eI x5), .un, .un]) rfl ?_
    refine j_forR (enc := eI) (xs := r6) (encR := eB) (γ0 := fun (s7 : Unit) => [.sh ((eT (eP4 eI eI eI eI)) calls1), .sh (eI pace2), .sh (eI x5), .un, .un]) (t0 := ()) (i_range1O rfl C.b_range (e_var (i := 2) rfl (.inl rfl) rfl) (fun _ _ => rfl) hr6) (⟨rfl, ⟨rfl, ⟨rfl, trivial⟩⟩⟩) (fun s7 x8 hx8 => ⟨_, _, (g_name (i := 3) ⟨nd__law_quarrel, rfl, .inl rfl, .inr rfl⟩), ?_⟩) (fun _ => rfl) (fun s7 => ?_) (fun _ _ => rfl)
    · refine j_bind fun t9 ht9 => ?_
      refine j_bind fun t10 ht10 => ?_
      refine j_bind fun t11 ht11 => ?_
      refine j_bind fun t12 ht12 => ?_
      refine j_bind fun t13 ht13 => ?_
      refine j_bind fun room14 hroom14 => ?_
      refine j_set (i := 4) ⟨nd__law_quarrel, rfl, .inl rfl, .inr rfl⟩ (EJ.of (e_add (e_add (e_ixC (i := 3) (e_ixT (enc := (eP4 eI eI eI eI)) (xs := calls1) (EJ.qt (e_var (i := 0) rfl (.inl rfl) rfl)) (e_var (i := 3) rfl (.inl rfl) rfl) ht9 (fun _ _ => rfl)) rfl) (e_ixC (i := 3) (e_ixT (enc := (eP4 eI eI eI eI)) (xs := calls1) (EJ.qt (e_var (i := 0) rfl (.inl rfl) rfl)) (e_var (i := 2) rfl (.inl rfl) rfl) ht10 (fun _ _ => rfl)) rfl)) (e_mulO (e_var (i := 1) rfl (.inl rfl) rfl) (e_abs rfl C.b_abs (e_sub (e_ixC (i := 0) (e_ixT (enc := (eP4 eI eI eI eI)) (xs := calls1) (EJ.qt (e_var (i := 0) rfl (.inl rfl) rfl)) (e_var (i := 3) rfl (.inl rfl) rfl) ht11 (fun _ _ => rfl)) rfl) (e_ixC (i := 0) (e_ixT (enc := (eP4 eI eI eI eI)) (xs := calls1) (EJ.qt (e_var (i := 0) rfl (.inl rfl) rfl)) (e_var (i := 2) rfl (.inl rfl) rfl) ht12 (fun _ _ => rfl)) rfl)) (fun _ _ => rfl)) ht13)) (congrArg eI (Option.some.inj hroom14))) (fun _ _ => rfl) ?_
      refine j_bind fun t15 ht15 => ?_
      refine j_bind fun t16 ht16 => ?_
      refine j_bind fun t17 ht17 => ?_
      refine j_bind fun t18 ht18 => ?_
      refine j_ifR (t_cmp (c_gt (e_max2 rfl C.b_max (e_abs rfl C.b_abs (e_sub (e_ixC (i := 1) (e_ixT (enc := (eP4 eI eI eI eI)) (xs := calls1) (EJ.qt (e_var (i := 0) rfl (.inl rfl) rfl)) (e_var (i := 3) rfl (.inl rfl) rfl) ht15 (fun _ _ => rfl)) rfl) (e_ixC (i := 1) (e_ixT (enc := (eP4 eI eI eI eI)) (xs := calls1) (EJ.qt (e_var (i := 0) rfl (.inl rfl) rfl)) (e_var (i := 2) rfl (.inl rfl) rfl) ht16 (fun _ _ => rfl)) rfl)) (fun _ _ => rfl)) (e_abs rfl C.b_abs (e_sub (e_ixC (i := 2) (e_ixT (enc := (eP4 eI eI eI eI)) (xs := calls1) (EJ.qt (e_var (i := 0) rfl (.inl rfl) rfl)) (e_var (i := 3) rfl (.inl rfl) rfl) ht17 (fun _ _ => rfl)) rfl) (e_ixC (i := 2) (e_ixT (enc := (eP4 eI eI eI eI)) (xs := calls1) (EJ.qt (e_var (i := 0) rfl (.inl rfl) rfl)) (e_var (i := 2) rfl (.inl rfl) rfl) ht18 (fun _ _ => rfl)) rfl)) (fun _ _ => rfl)) (fun _ _ => rfl) (fun _ _ => rfl) (fun _ => rfl)) (e_var (i := 4) rfl (.inl rfl) rfl)) (nomark _)) (fun hc => ?_) (fun hc => ?_)
      · exact j_ret e_bl rfl
      · refine j_to (γ2 := [.sh ((eT (eP4 eI eI eI eI)) calls1), .sh (eI pace2), .sh (eI x5), .sh (eI x8), .sh (eI room14)]) rfl ?_
        exact j_nil (⟨rfl, ⟨rfl, ⟨rfl, trivial⟩⟩⟩)
    · refine j_to (γ2 := [.sh ((eT (eP4 eI eI eI eI)) calls1), .sh (eI pace2), .sh (eI x5), .un, .un]) rfl ?_
      exact j_nil (⟨rfl, ⟨rfl, trivial⟩⟩)
  · exact j_ret e_bl rfl
theorem ok__law_quarrel (C : Gl K mg base tabs) : Known P w K mg base tabs 1 "_law_quarrel" 2 R__law_quarrel := known_of (k := 0) C.d__law_quarrel sc__law_quarrel fun cdv B F0 ds r _ hr => by
  obtain ⟨calls1, pace2, y, rfl, hy, rfl⟩ := hr
  exact (j__law_quarrel C cdv B F0 calls1 pace2).body hy
def R__law_pairs (ds : List PyData) (r : PyData) : Prop := ∃ (calls1 : (List (Int × Int × Int × Int))), ∃ (pace2 : Int), ∃ y, ds = [(eT (eP4 eI eI eI eI)) calls1, eI pace2] ∧ m__law_pairs calls1 pace2 = some y ∧ r = (eL (eP2 eI eI)) y
theorem j__law_pairs (C : Gl K mg base tabs) (cdv : Value) (B F0 : Hp) (calls1 : (List (Int × Int × Int × Int))) (pace2 : Int) : J (Stat.of P w K mg base ["calls", "pace", "pairs", "i", "j"] (defScope s__law_pairs) 1 tabs cdv B F0) [.sh ((eT (eP4 eI eI eI eI)) calls1), .sh (eI pace2), .un, .un, .un] (defBody s__law_pairs) (pT (eL (eP2 eI eI))) (m__law_pairs calls1 pace2) := by
  unfold m__law_pairs
  refine j_bind fun pairs3 hpairs3 => ?_
  refine j_setF (i := 2) ⟨nd__law_pairs, rfl, .inl rfl, .inr rfl⟩ (FJ.of (FJ.of (ds' := List.map (eP2 eI eI) ([] : List (Int × Int))) (f_lst a_nil (len_le (n := 0) rfl (by decide))) rfl) (congrArg (List.map (eP2 eI eI)) (Option.some.inj hpairs3))) (fun _ _ => rfl) ?_
  refine j_bind fun r4 hr4 => ?_
  refine j_to (γ2 := [.sh ((eT (eP4 eI eI eI eI)) calls1), .sh (eI pace2), .ow (.list (List.map (eP2 eI eI) pairs3)), .un, .un]) rfl ?_
  refine j_for (enc := eI) (xs := r4) (γ0 := fun (s5 : ((List (Int × Int)))) => [.sh ((eT (eP4 eI eI eI eI)) calls1), .sh (eI pace2), .ow (.list (List.map (eP2 eI eI) s5)), .un, .un]) (t0 := (pairs3)) (i_range1O rfl C.b_range (e_lenT (enc := (eP4 eI eI eI eI)) (xs := calls1) rfl C.b_len (EJ.qt (e_var (i := 0) rfl (.inl rfl) rfl)) (fun _ _ => rfl)) (fun _ _ => rfl) hr4) (⟨rfl, ⟨rfl, ⟨rfl, trivial⟩⟩⟩) (fun s5 x6 hx6 => ⟨_, _, (g_name (i := 3) ⟨nd__law_pairs, rfl, .inl rfl, .inr rfl⟩), ?_⟩) (fun s5 => ?_) (fun _ _ => rfl)
  · refine j_bind fun r7 hr7 => ?_
    refine j_to (γ2 := [.sh ((eT (eP4 eI eI eI eI)) calls1), .sh (eI pace2), .ow (.list (List.map (eP2 eI eI) s5)), .sh (eI x6), .un]) rfl ?_
    refine j_for (enc := eI) (xs := r7) (γ0 := fun (s8 : ((List (Int × Int)))) => [.sh ((eT (eP4 eI eI eI eI)) calls1), .sh (eI pace2), .ow (.list (List.map (eP2 eI eI) s8)), .sh (eI x6), .un]) (t0 := (s5)) (i_range2O rfl C.b_range (e_add (e_var (i := 3) rfl (.inl rfl) rfl) e_int) (e_lenT (enc := (eP4 eI eI eI eI)) (xs := calls1) rfl C.b_len (EJ.qt (e_var (i := 0) rfl (.inl rfl) rfl)) (fun _ _ => rfl)) (fun _ _ => rfl) (fun _ _ => rfl) hr7) (⟨rfl, ⟨rfl, ⟨rfl, ⟨rfl, trivial⟩⟩⟩⟩) (fun s8 x9 hx9 => ⟨_, _, (g_name (i := 4) ⟨nd__law_pairs, rfl, .inl rfl, .inr rfl⟩), ?_⟩) (fun s8 => ?_) (fun _ _ => rfl)
    · refine j_bind fun t10 ht10 => ?_
      refine j_bind fun t11 ht11 => ?_
      refine j_bind fun t12 ht12 => ?_
      refine j_ifJ (γj := fun (j14 : ((List (Int × Int)))) => [.sh ((eT (eP4 eI eI eI eI)) calls1), .sh (eI pace2), .ow (.list (List.map (eP2 eI eI) j14)), .sh (eI x6), .un]) (t_val (EJ.of (d' := eB t12) (e_callK (ok__law_quarrel C) (Nat.le_of_ble_eq_true rfl) rfl (a_cons (EJ.of (d' := ((eT (eP4 eI eI eI eI)) [t10, t11])) (e_tup (a_cons (e_ixT (enc := (eP4 eI eI eI eI)) (xs := calls1) (EJ.qt (e_var (i := 0) rfl (.inl rfl) rfl)) (e_var (i := 3) rfl (.inl rfl) rfl) ht10 (fun _ _ => rfl)) (a_cons (e_ixT (enc := (eP4 eI eI eI eI)) (xs := calls1) (EJ.qt (e_var (i := 0) rfl (.inl rfl) rfl)) (e_var (i := 4) rfl (.inl rfl) rfl) ht11 (fun _ _ => rfl)) a_nil (fun _ _ => rfl)) (fun _ _ => rfl)) (len_le (n := 2) rfl (by decide))) rfl) (a_cons (e_var (i := 1) rfl (.inl rfl) rfl) a_nil (fun _ _ => rfl)) (fun _ _ => rfl)) ⟨[t10, t11], pace2, t12, rfl, ht12, rfl⟩ rfl (fun _ _ => rfl) (fun _ => rfl) (by decide)) rfl) (fun _ _ => rfl)) (fun hc => ?_) (fun hc => ?_) (fun j14 => ?_)
      · refine j_bind fun pairs15 hpairs15 => ?_
        refine j_appO (j := 2) (enc := (eP2 eI eI)) (xs := s8) (zs := pairs15) rfl (.inl rfl) rfl (EJ.of (d' := ((eP2 eI eI) (x6, x9))) (e_tup (a_cons (e_var (i := 3) rfl (.inl rfl) rfl) (a_cons (e_var (i := 4) rfl (.inl rfl) rfl) a_nil (fun _ _ => rfl)) (fun _ _ => rfl)) (len_le (n := 2) rfl (by decide))) rfl) hpairs15 (fun _ _ => rfl) (by decide) (by decide) (fun _ => rfl) rfl ?_
        refine j_to (γ2 := [.sh ((eT (eP4 eI eI eI eI)) calls1), .sh (eI pace2), .ow (.list (List.map (eP2 eI eI) pairs15)), .sh (eI x6), .sh (eI x9)]) rfl ?_
        exact j_nil (⟨rfl, ⟨rfl, ⟨rfl, ⟨rfl, trivial⟩⟩⟩⟩)
      · refine j_to (γ2 := [.sh ((eT (eP4 eI eI eI eI)) calls1), .sh (eI pace2), .ow (.list (List.map (eP2 eI eI) s8)), .sh (eI x6), .sh (eI x9)]) rfl ?_
        exact j_nil (⟨rfl, ⟨rfl, ⟨rfl, ⟨rfl, trivial⟩⟩⟩⟩)
      · refine j_to (γ2 := [.sh ((eT (eP4 eI eI eI eI)) calls1), .sh (eI pace2), .ow (.list (List.map (eP2 eI eI) j14)), .sh (eI x6), .un]) rfl ?_
        exact j_nil (⟨rfl, ⟨rfl, ⟨rfl, ⟨rfl, trivial⟩⟩⟩⟩)
    · refine j_to (γ2 := [.sh ((eT (eP4 eI eI eI eI)) calls1), .sh (eI pace2), .ow (.list (List.map (eP2 eI eI) s8)), .sh (eI x6), .un]) rfl ?_
      exact j_nil (⟨rfl, ⟨rfl, ⟨rfl, trivial⟩⟩⟩)
  · refine j_share (j := 2) rfl ?_
    exact j_ret (e_var (i := 2) rfl (.inl rfl) rfl) rfl
theorem ok__law_pairs (C : Gl K mg base tabs) : Known P w K mg base tabs 2 "_law_pairs" 2 R__law_pairs := known_of (k := 1) C.d__law_pairs sc__law_pairs fun cdv B F0 ds r _ hr => by
  obtain ⟨calls1, pace2, y, rfl, hy, rfl⟩ := hr
  exact (j__law_pairs C cdv B F0 calls1 pace2).body hy
def R__law_near (ds : List PyData) (r : PyData) : Prop := ∃ (one1 : (Int × Int)), ∃ (other2 : (Int × Int)), ∃ (most3 : Int), ∃ y, ds = [(eP2 eI eI) one1, (eP2 eI eI) other2, eI most3] ∧ m__law_near one1 other2 most3 = some y ∧ r = eB y
theorem j__law_near (C : Gl K mg base tabs) (cdv : Value) (B F0 : Hp) (one1 : (Int × Int)) (other2 : (Int × Int)) (most3 : Int) : J (Stat.of P w K mg base ["one", "other", "most"] (defScope s__law_near) 0 tabs cdv B F0) [.sh ((eP2 eI eI) one1), .sh ((eP2 eI eI) other2), .sh (eI most3)] (defBody s__law_near) (pT eB) (m__law_near one1 other2 most3) := by
  unfold m__law_near
  exact j_ret (e_and (e_cmp (c_le (e_abs rfl C.b_abs (e_sub (e_ixC (i := 0) (e_var (i := 0) rfl (.inl rfl) rfl) rfl) (e_ixC (i := 0) (e_var (i := 1) rfl (.inl rfl) rfl) rfl)) (fun _ _ => rfl)) (e_var (i := 2) rfl (.inl rfl) rfl)) (nomark _)) fun _ => (e_one (e_cmp (c_le (e_abs rfl C.b_abs (e_sub (e_ixC (i := 1) (e_var (i := 0) rfl (.inl rfl) rfl) rfl) (e_ixC (i := 1) (e_var (i := 1) rfl (.inl rfl) rfl) rfl)) (fun _ _ => rfl)) (e_var (i := 2) rfl (.inl rfl) rfl)) (nomark _)))) rfl
theorem ok__law_near (C : Gl K mg base tabs) : Known P w K mg base tabs 1 "_law_near" 3 R__law_near := known_of (k := 0) C.d__law_near sc__law_near fun cdv B F0 ds r _ hr => by
  obtain ⟨one1, other2, most3, y, rfl, hy, rfl⟩ := hr
  exact (j__law_near C cdv B F0 one1 other2 most3).body hy
def R__law_heard (ds : List PyData) (r : PyData) : Prop := ∃ (calls1 : (List (Int × Int × Int × Int))), ∃ (pace2 : Int), ∃ (last3 : Int), ∃ (walk4 : (List (Int × Int))), ∃ y, ds = [(eT (eP4 eI eI eI eI)) calls1, eI pace2, eI last3, (eT (eP2 eI eI)) walk4] ∧ m__law_heard calls1 pace2 last3 walk4 = some y ∧ r = eB y
theorem j__law_heard (C : Gl K mg base tabs) (cdv : Value) (B F0 : Hp) (calls1 : (List (Int × Int × Int × Int))) (pace2 : Int) (last3 : Int) (walk4 : (List (Int × Int))) : J (Stat.of P w K mg base ["calls", "pace", "last", "walk", "call", "at"] (defScope s__law_heard) 1 tabs cdv B F0) [.sh ((eT (eP4 eI eI eI eI)) calls1), .sh (eI pace2), .sh (eI last3), .sh ((eT (eP2 eI eI)) walk4), .un, .un] (defBody s__law_heard) (pT eB) (m__law_heard calls1 pace2 last3 walk4) := by
  unfold m__law_heard
  refine j_ifR (t_cmp (c_neI (e_lenT (enc := (eP2 eI eI)) (xs := walk4) rfl C.b_len (EJ.qt (e_var (i := 3) rfl (.inr (.inl rfl)) rfl)) (fun _ _ => rfl)) (e_add (e_var (i := 2) rfl (.inl rfl) rfl) e_int)) (nomark _)) (fun hc => ?_) (fun hc => ?_)
  · exact j_ret e_bl rfl
  · refine j_bind fun r5 hr5 => ?_
    refine j_bind fun l10 hl10 => ?_
    refine j_ifR (t_cmp (c_gt (e_lenT (enc := eI) (xs := l10) rfl C.b_len (FJ.q (f_lc (own := [("at", 5)]) (enc := eI) (encB := eI) (xs := r5) (f := (fun (x6 : Int) => ((atI walk4 x6).bind fun t7 => ((atI walk4 (x6 + (1 : Int))).bind fun t8 => ((m__law_near t7 t8 pace2).bind fun t9 => (if (!t9) = true then (some x6).bind (fun y => some (some y)) else some none)))))) (IW.x (i_range1O rfl C.b_range (e_var (i := 2) rfl (.inl rfl) rfl) (fun _ _ => rfl) hr5)) (fun x6 _ => (cb_bind fun t7 ht7 => (cb_bind fun t8 ht8 => (cb_bind fun t9 ht9 => (cb1 (k := (!t9)) (o := (some x6)) (g_name (i := 5) ⟨nd__law_heard, rfl, .inl rfl, .inr rfl⟩) (by decide) (t_not (t_val (EJ.of (d' := eB t9) (e_callK (ok__law_near C) (Nat.le_of_ble_eq_true rfl) rfl (a_cons (e_ixT (enc := (eP2 eI eI)) (xs := walk4) (EJ.qt (e_var (i := 3) rfl (.inr (.inl rfl)) rfl)) (e_var (i := 5) rfl (.inl rfl) rfl) ht7 (fun _ _ => rfl)) (a_cons (e_ixT (enc := (eP2 eI eI)) (xs := walk4) (EJ.qt (e_var (i := 3) rfl (.inr (.inl rfl)) rfl)) (e_add (e_var (i := 5) rfl (.inl rfl) rfl) e_int) ht8 (fun _ _ => rfl)) (a_cons (e_var (i := 1) rfl (.inr (.inl rfl)) rfl) a_nil (fun _ _ => rfl)) (fun _ _ => rfl)) (fun _ _ => rfl)) ⟨t7, t8, pace2, t9, rfl, ht9, rfl⟩ rfl (fun _ _ => rfl) (fun _ => rfl) (by decide)) rfl) (fun _ _ => rfl))) (fun _ => (eo_some (encB := eI) (e_var (i := 5) rfl (.inl rfl) rfl)))))))) hl10 nd__law_heard rfl (by decide) (fun _ _ => rfl))) (fun _ _ => rfl)) e_int) (nomark _)) (fun hc => ?_) (fun hc => ?_)
    · exact j_ret e_bl rfl
    · refine j_bind fun l14 hl14 => ?_
      exact j_ret (e_all (bs := l14) rfl C.b_all (FJ.q (f_lc (own := [("call", 4)]) (enc := (eP4 eI eI eI eI)) (encB := eB) (xs := calls1) (f := (fun (x11 : (Int × Int × Int × Int)) => ((atI walk4 x11.1).bind fun t12 => ((m__law_near t12 (x11.2.1, x11.2.2.1) x11.2.2.2).bind fun t13 => (some (some t13)))))) (IW.x (i_tup (e_var (i := 0) rfl (.inl rfl) rfl))) (fun x11 _ => (cb_bind fun t12 ht12 => (cb_bind fun t13 ht13 => (cb0T (y := t13) (g_name (i := 4) ⟨nd__law_heard, rfl, .inl rfl, .inr rfl⟩) (by decide) (EJ.of (d' := eB t13) (e_callK (ok__law_near C) (Nat.le_of_ble_eq_true rfl) rfl (a_cons (e_ixT (enc := (eP2 eI eI)) (xs := walk4) (EJ.qt (e_var (i := 3) rfl (.inr (.inl rfl)) rfl)) (e_ixC (i := 0) (e_var (i := 4) rfl (.inl rfl) rfl) rfl) ht12 (fun _ _ => rfl)) (a_cons (EJ.of (d' := ((eP2 eI eI) (x11.2.1, x11.2.2.1))) (e_tup (a_cons (e_ixC (i := 1) (e_var (i := 4) rfl (.inl rfl) rfl) rfl) (a_cons (e_ixC (i := 2) (e_var (i := 4) rfl (.inl rfl) rfl) rfl) a_nil (fun _ _ => rfl)) (fun _ _ => rfl)) (len_le (n := 2) rfl (by decide))) rfl) (a_cons (e_ixC (i := 3) (e_var (i := 4) rfl (.inl rfl) rfl) rfl) a_nil (fun _ _ => rfl)) (fun _ _ => rfl)) (fun _ _ => rfl)) ⟨t12, (x11.2.1, x11.2.2.1), x11.2.2.2, t13, rfl, ht13, rfl⟩ rfl (fun _ _ => rfl) (fun _ => rfl) (by decide)) rfl))))) hl14 nd__law_heard rfl (by decide) (fun _ _ => rfl))) (fun _ _ => rfl)) rfl
theorem ok__law_heard (C : Gl K mg base tabs) : Known P w K mg base tabs 2 "_law_heard" 4 R__law_heard := known_of (k := 1) C.d__law_heard sc__law_heard fun cdv B F0 ds r _ hr => by
  obtain ⟨calls1, pace2, last3, walk4, y, rfl, hy, rfl⟩ := hr
  exact (j__law_heard C cdv B F0 calls1 pace2 last3 walk4).body hy
def R_law (ds : List PyData) (r : PyData) : Prop := ∃ (script1 : (List Int)), ∃ y, ds = [(eL eI) script1] ∧ m_law script1 = some y ∧ r = eB y
theorem j_law (C : Gl K mg base tabs) (cdv : Value) (B F0 : Hp) (script1 : (List Int)) : J (Stat.of P w K mg base ["script", "turn", "draws", "pace", "last", "cells", "calls", "rows", "columns", "pairs", "heard", "time", "lows", "highs", "odd", "asked", "at", "walk", "one", "base"] (defScope s_law) 8 tabs cdv B F0) [.sh ((eL eI) script1), .un, .un, .un, .un, .un, .un, .un, .un, .un, .un, .un, .un, .un, .un, .un, .un, .un, .un, .un] (defBody s_law) (pT eB) (m_law script1) := by
  unfold m_law
  refine j_bind fun r2 hr2 => ?_
  refine j_to (γ2 := [.sh ((eL eI) script1), .un, .un, .un, .un, .un, .un, .un, .un, .un, .un, .un, .un, .un, .un, .un, .un, .un, .un, .un]) rfl ?_
  refine j_forR (enc := eI) (xs := r2) (encR := eB) (γ0 := fun (s3 : Unit) => [.sh ((eL eI) script1), .un, .un, .un, .un, .un, .un, .un, .un, .un, .un, .un, .un, .un, .un, .un, .un, .un, .un, .un]) (t0 := ()) (i_range1O rfl C.b_range e_int (fun _ _ => rfl) hr2) (⟨rfl, trivial⟩) (fun s3 x4 hx4 => ⟨_, _, (g_name (i := 1) ⟨nd_law, rfl, .inl rfl, .inr rfl⟩), ?_⟩) (fun _ => rfl) (fun s3 => ?_) (fun _ _ => rfl)
  · refine j_bind fun t5 ht5 => ?_
    refine j_bind fun draws7 hdraws7 => ?_
    refine j_set (i := 2) ⟨nd_law, rfl, .inl rfl, .inr rfl⟩ (EJ.of (d' := (eL eI) draws7) (e_callK (ok__law_draws C) (Nat.le_of_ble_eq_true rfl) rfl (a_cons (EJ.of (d' := eI t5) (e_callK (ok__law_cell C) (Nat.le_of_ble_eq_true rfl) rfl (a_cons (e_var (i := 0) rfl (.inl rfl) rfl) (a_cons (e_var (i := 1) rfl (.inl rfl) rfl) a_nil (fun _ _ => rfl)) (fun _ _ => rfl)) ⟨script1, x4, t5, rfl, ht5, rfl⟩ rfl (fun _ _ => rfl) (fun _ => rfl) (by decide)) rfl) (a_cons e_int a_nil (fun _ _ => rfl)) (fun _ _ => rfl)) ⟨t5, (50 : Int), draws7, rfl, hdraws7, rfl⟩ rfl (fun _ _ => rfl) (fun _ => rfl) (by decide)) rfl) (fun _ _ => rfl) ?_
    refine j_bind fun t8 ht8 => ?_
    refine j_bind fun pace9 hpace9 => ?_
    refine j_set (i := 3) ⟨nd_law, rfl, .inl rfl, .inr rfl⟩ (EJ.of (e_mod (e_int1 rfl C.b_int (e_ixT (enc := eI) (xs := draws7) (EJ.ql (e_var (i := 2) rfl (.inl rfl) rfl)) e_int ht8 (fun _ _ => rfl)) (fun _ _ => rfl)) e_int (by decide)) (congrArg eI (Option.some.inj hpace9))) (fun _ _ => rfl) ?_
    refine j_bind fun t10 ht10 => ?_
    refine j_bind fun last11 hlast11 => ?_
    refine j_set (i := 4) ⟨nd_law, rfl, .inl rfl, .inr rfl⟩ (EJ.of (e_mod (e_int1 rfl C.b_int (e_ixT (enc := eI) (xs := draws7) (EJ.ql (e_var (i := 2) rfl (.inl rfl) rfl)) e_int ht10 (fun _ _ => rfl)) (fun _ _ => rfl)) e_int (by decide)) (congrArg eI (Option.some.inj hlast11))) (fun _ _ => rfl) ?_
    refine j_bind fun cells13 hcells13 => ?_
    refine j_set (i := 5) ⟨nd_law, rfl, .inl rfl, .inr rfl⟩ (EJ.of (d' := (eT (eP2 eI eI)) cells13) (e_callK (ok__law_hidden C) (Nat.le_of_ble_eq_true rfl) rfl (a_cons (FJ.ej (f_slT (enc := eI) (EJ.ql (e_var (i := 2) rfl (.inl rfl) rfl)) (o_some e_int) (o_some e_int))) (a_cons (e_var (i := 3) rfl (.inl rfl) rfl) (a_cons (e_var (i := 4) rfl (.inl rfl) rfl) a_nil (fun _ _ => rfl)) (fun _ _ => rfl)) (fun _ _ => rfl)) ⟨(cut draws7 (some (2 : Int)) (some (10 : Int))), pace9, last11, cells13, rfl, hcells13, rfl⟩ rfl (fun _ _ => rfl) (fun _ => rfl) (by decide)) rfl) (fun _ _ => rfl) ?_
    refine j_bind fun t16 ht16 => ?_
    refine j_bind fun calls18 hcalls18 => ?_
    refine j_set (i := 6) ⟨nd_law, rfl, .inl rfl, .inr rfl⟩ (EJ.of (d' := (eT (eP4 eI eI eI eI)) calls18) (e_callK (ok__law_calls C) (Nat.le_of_ble_eq_true rfl) rfl (a_cons (FJ.ej (f_slT (enc := eI) (EJ.ql (e_var (i := 2) rfl (.inl rfl) rfl)) (o_some e_int) (o_some e_int))) (a_cons (e_var (i := 5) rfl (.inl rfl) rfl) (a_cons (EO.elim (eo_or (eo_some (encB := eB) (e_cmp (c_eqI (e_var (i := 1) rfl (.inl rfl) rfl) e_int) (nomark _))) fun _ => (eo_one (eo_bind fun t15 ht15 => (eo_some (encB := eB) (EO.elim (eo_and (eo_some (encB := eB) (e_cmp (c_eqI (e_var (i := 1) rfl (.inl rfl) rfl) e_int) (nomark _))) fun _ => (eo_one (eo_bind fun t14 ht14 => (eo_some (encB := eB) (e_cmp (c_eqI (e_mod (e_int1 rfl C.b_int (e_ixT (enc := eI) (xs := draws7) (EJ.ql (e_var (i := 2) rfl (.inl rfl) rfl)) e_int ht14 (fun _ _ => rfl)) (fun _ _ => rfl)) e_int (by decide)) e_int) (nomark _)))))) ht15))))) ht16) a_nil (fun _ _ => rfl)) (fun _ _ => rfl)) (fun _ _ => rfl)) ⟨(cut draws7 (some (10 : Int)) (some (20 : Int))), cells13, t16, calls18, rfl, hcalls18, rfl⟩ rfl (fun _ _ => rfl) (fun _ => rfl) (by decide)) rfl) (fun _ _ => rfl) ?_
    refine j_ifJ (γj := fun (j23 : ((List (Int × Int × Int × Int)))) => [.sh ((eL eI) script1), .sh (eI x4), .sh ((eL eI) draws7), .sh (eI pace9), .sh (eI last11), .sh ((eT (eP2 eI eI)) cells13), .sh ((eT (eP4 eI eI eI eI)) j23), .un, .un, .un, .un, .un, .un, .un, .un, .un, .un, .un, .un, .un]) (t_cmp (c_eqI (e_var (i := 1) rfl (.inl rfl) rfl) e_int) (nomark _)) (fun hc => ?_) (fun hc => ?_) (fun j23 => ?_)
    · refine j_bind fun one25 hone25 => ?_
      refine j_set (i := 18) ⟨nd_law, rfl, .inl rfl, .inr rfl⟩ (e_ixT (enc := (eP4 eI eI eI eI)) (xs := calls18) (EJ.qt (e_var (i := 6) rfl (.inl rfl) rfl)) e_int hone25 (fun _ _ => rfl)) (fun _ _ => rfl) ?_
      refine j_bind fun calls27 hcalls27 => ?_
      refine j_set (i := 6) ⟨nd_law, rfl, .inl rfl, .inr rfl⟩ (e_catO (enc := (eP4 eI eI eI eI)) (e_slTT (enc := (eP4 eI eI eI eI)) (e_var (i := 6) rfl (.inl rfl) rfl) o_none (o_some e_int)) (EJ.of (d' := ((eT (eP4 eI eI eI eI)) [(one25.1, ((one25.2.1 + one25.2.2.2) + (3 : Int)), one25.2.2.1, (2 : Int))])) (e_tup (a_cons (EJ.of (d' := ((eP4 eI eI eI eI) (one25.1, ((one25.2.1 + one25.2.2.2) + (3 : Int)), one25.2.2.1, (2 : Int)))) (e_tup (a_cons (e_ixC (i := 0) (e_var (i := 18) rfl (.inl rfl) rfl) rfl) (a_cons (e_add (e_add (e_ixC (i := 1) (e_var (i := 18) rfl (.inl rfl) rfl) rfl) (e_ixC (i := 3) (e_var (i := 18) rfl (.inl rfl) rfl) rfl)) e_int) (a_cons (e_ixC (i := 2) (e_var (i := 18) rfl (.inl rfl) rfl) rfl) (a_cons e_int a_nil (fun _ _ => rfl)) (fun _ _ => rfl)) (fun _ _ => rfl)) (fun _ _ => rfl)) (len_le (n := 4) rfl (by decide))) rfl) a_nil (fun _ _ => rfl)) (len_le (n := 1) rfl (by decide))) rfl) hcalls27) (fun _ _ => rfl) ?_
      refine j_to (γ2 := [.sh ((eL eI) script1), .sh (eI x4), .sh ((eL eI) draws7), .sh (eI pace9), .sh (eI last11), .sh ((eT (eP2 eI eI)) cells13), .sh ((eT (eP4 eI eI eI eI)) calls27), .un, .un, .un, .un, .un, .un, .un, .un, .un, .un, .un, .sh ((eP4 eI eI eI eI) one25), .un]) rfl ?_
      exact j_nil (⟨rfl, ⟨rfl, ⟨rfl, ⟨rfl, ⟨rfl, ⟨rfl, ⟨rfl, trivial⟩⟩⟩⟩⟩⟩⟩)
    · refine j_to (γ2 := [.sh ((eL eI) script1), .sh (eI x4), .sh ((eL eI) draws7), .sh (eI pace9), .sh (eI last11), .sh ((eT (eP2 eI eI)) cells13), .sh ((eT (eP4 eI eI eI eI)) calls18), .un, .un, .un, .un, .un, .un, .un, .un, .un, .un, .un, .un, .un]) rfl ?_
      exact j_nil (⟨rfl, ⟨rfl, ⟨rfl, ⟨rfl, ⟨rfl, ⟨rfl, ⟨rfl, trivial⟩⟩⟩⟩⟩⟩⟩)
    · refine j_bind fun rows29 hrows29 => ?_
      refine j_set (i := 7) ⟨nd_law, rfl, .inr rfl, .inl rfl⟩ (EJ.of (d' := (eL (eP2 eI eI)) rows29) (e_callK (ok__law_side C) (Nat.le_of_ble_eq_true rfl) rfl (a_cons (e_var (i := 6) rfl (.inl rfl) rfl) (a_cons (e_var (i := 3) rfl (.inl rfl) rfl) (a_cons (e_add (e_var (i := 4) rfl (.inl rfl) rfl) e_int) (a_cons e_int a_nil (fun _ _ => rfl)) (fun _ _ => rfl)) (fun _ _ => rfl)) (fun _ _ => rfl)) ⟨j23, pace9, (last11 + (2 : Int)), (1 : Int), rows29, rfl, hrows29, rfl⟩ rfl (fun _ _ => rfl) (fun _ => rfl) (by decide)) rfl) (fun _ _ => rfl) ?_
      refine j_bind fun columns31 hcolumns31 => ?_
      refine j_set (i := 8) ⟨nd_law, rfl, .inr rfl, .inl rfl⟩ (EJ.of (d' := (eL (eP2 eI eI)) columns31) (e_callK (ok__law_side C) (Nat.le_of_ble_eq_true rfl) rfl (a_cons (e_var (i := 6) rfl (.inl rfl) rfl) (a_cons (e_var (i := 3) rfl (.inl rfl) rfl) (a_cons (e_add (e_var (i := 4) rfl (.inl rfl) rfl) e_int) (a_cons e_int a_nil (fun _ _ => rfl)) (fun _ _ => rfl)) (fun _ _ => rfl)) (fun _ _ => rfl)) ⟨j23, pace9, (last11 + (2 : Int)), (2 : Int), columns31, rfl, hcolumns31, rfl⟩ rfl (fun _ _ => rfl) (fun _ => rfl) (by decide)) rfl) (fun _ _ => rfl) ?_
      refine j_bind fun pairs33 hpairs33 => ?_
      refine j_set (i := 9) ⟨nd_law, rfl, .inl rfl, .inr rfl⟩ (EJ.of (d' := (eL (eP2 eI eI)) pairs33) (e_callK (ok__law_pairs C) (Nat.le_of_ble_eq_true rfl) rfl (a_cons (e_var (i := 6) rfl (.inl rfl) rfl) (a_cons (e_var (i := 3) rfl (.inl rfl) rfl) a_nil (fun _ _ => rfl)) (fun _ _ => rfl)) ⟨j23, pace9, pairs33, rfl, hpairs33, rfl⟩ rfl (fun _ _ => rfl) (fun _ => rfl) (by decide)) rfl) (fun _ _ => rfl) ?_
      refine j_bind fun t34 ht34 => ?_
      refine j_bind fun heard36 hheard36 => ?_
      refine j_set (i := 10) ⟨nd_law, rfl, .inl rfl, .inr rfl⟩ (EJ.of (e_all (bs := (List.map (fun (x35 : (Int × Int)) => (decide (x35.1 ≤ x35.2))) t34)) rfl C.b_all (FJ.q (f_lc (own := [("one", 18)]) (enc := (eP2 eI eI)) (encB := eB) (xs := t34) (f := (fun (x35 : (Int × Int)) => some (some (decide (x35.1 ≤ x35.2))))) (i_own (FJ.q (f_catO (enc := (eP2 eI eI)) (EJ.ql (e_var (i := 7) rfl (.inr (.inl rfl)) rfl)) (EJ.ql (e_var (i := 8) rfl (.inr (.inl rfl)) rfl)) ht34))) (fun x35 _ => cb0T (y := (decide (x35.1 ≤ x35.2))) (g_name (i := 18) ⟨nd_law, rfl, .inl rfl, .inr rfl⟩) (by decide) (e_cmp (c_le (e_ixC (i := 0) (e_var (i := 18) rfl (.inl rfl) rfl) rfl) (e_ixC (i := 1) (e_var (i := 18) rfl (.inl rfl) rfl) rfl)) (nomark _))) (compM_map _) nd_law rfl (by decide) (fun _ _ => rfl))) (fun _ _ => rfl)) (congrArg eB (Option.some.inj hheard36))) (fun _ _ => rfl) ?_
      refine j_ifR (t_w (w_or (t_cmp (c_neB (e_var (i := 10) rfl (.inl rfl) rfl) (e_cmp (c_eqI (e_lenT (enc := (eP2 eI eI)) (xs := pairs33) rfl C.b_len (EJ.ql (e_var (i := 9) rfl (.inl rfl) rfl)) (fun _ _ => rfl)) e_int) (nomark _))) (nomark _)) fun _ => (w_or (t_w (w_and (t_cmp (c_eqI (e_var (i := 1) rfl (.inl rfl) rfl) e_int) (nomark _)) fun _ => (w_and1 (t_not (t_val (e_var (i := 10) rfl (.inl rfl) rfl) (fun _ _ => rfl)))))) fun _ => (w_or1 (t_w (w_and (t_cmp (c_eqI (e_var (i := 1) rfl (.inl rfl) rfl) e_int) (nomark _)) fun _ => (w_and1 (t_val (e_var (i := 10) rfl (.inl rfl) rfl) (fun _ _ => rfl))))))))) (fun hc => ?_) (fun hc => ?_)
      · exact j_ret e_bl rfl
      · refine j_bind fun t37 ht37 => ?_
        refine j_bind fun t39 ht39 => ?_
        refine j_bind fun t40 ht40 => ?_
        refine j_ifR (t_not (t_val (EJ.of (d' := eB t40) (e_callK (ok__law_is C) (Nat.le_of_ble_eq_true rfl) rfl (a_cons (EJ.of (d' := (eO (eP2 eI eI)) t37) (e_callK (ok_told_call_quarrel C) (Nat.le_of_ble_eq_true rfl) rfl (a_cons (e_var (i := 6) rfl (.inl rfl) rfl) (a_cons (e_var (i := 3) rfl (.inl rfl) rfl) a_nil (fun _ _ => rfl)) (fun _ _ => rfl)) ⟨j23, pace9, t37, rfl, ht37, rfl⟩ rfl (fun _ _ => rfl) (fun _ => rfl) (by decide)) rfl) (a_cons (EO.elim (eo_if (encB := (eO (eP2 eI eI))) (t_val (e_var (i := 10) rfl (.inl rfl) rfl) (fun _ _ => rfl)) (fun _ => (eo_some (encB := (eO (eP2 eI eI))) (EJ.of (d' := (eO (eP2 eI eI)) none) e_non rfl))) (fun _ => (eo_bind fun t38 ht38 => (eo_some (encB := (eO (eP2 eI eI))) (EJ.into (enc := (eP2 eI eI)) (e_ixT (enc := (eP2 eI eI)) (xs := pairs33) (EJ.ql (e_var (i := 9) rfl (.inl rfl) rfl)) e_int ht38 (fun _ _ => rfl))))))) ht39) a_nil (fun _ _ => rfl)) (fun _ _ => rfl)) ⟨((eO (eP2 eI eI)) t37), ((eO (eP2 eI eI)) t39), t40, rfl, ht40, rfl⟩ rfl (fun _ _ => rfl) (fun _ => rfl) (by decide)) rfl) (fun _ _ => rfl))) (fun hc => ?_) (fun hc => ?_)
        · exact j_ret e_bl rfl
        · refine j_bind fun r41 hr41 => ?_
          refine j_to (γ2 := [.sh ((eL eI) script1), .sh (eI x4), .sh ((eL eI) draws7), .sh (eI pace9), .sh (eI last11), .sh ((eT (eP2 eI eI)) cells13), .sh ((eT (eP4 eI eI eI eI)) j23), .sh ((eL (eP2 eI eI)) rows29), .sh ((eL (eP2 eI eI)) columns31), .sh ((eL (eP2 eI eI)) pairs33), .sh (eB heard36), .un, .un, .un, .un, .un, .un, .un, .un, .un]) rfl ?_
          refine j_forR (enc := eI) (xs := r41) (encR := eB) (γ0 := fun (s42 : Unit) => [.sh ((eL eI) script1), .un, .sh ((eL eI) draws7), .sh (eI pace9), .sh (eI last11), .sh ((eT (eP2 eI eI)) cells13), .sh ((eT (eP4 eI eI eI eI)) j23), .sh ((eL (eP2 eI eI)) rows29), .sh ((eL (eP2 eI eI)) columns31), .un, .sh (eB heard36), .un, .un, .un, .un, .un, .un, .un, .un, .un]) (t0 := ()) (i_range1O rfl C.b_range (e_add (e_var (i := 4) rfl (.inl rfl) rfl) e_int) (fun _ _ => rfl) hr41) (⟨rfl, ⟨rfl, ⟨rfl, ⟨rfl, ⟨rfl, ⟨rfl, ⟨rfl, ⟨rfl, ⟨rfl, trivial⟩⟩⟩⟩⟩⟩⟩⟩⟩) (fun s42 x43 hx43 => ⟨_, _, (g_name (i := 11) ⟨nd_law, rfl, .inl rfl, .inr rfl⟩), ?_⟩) (fun _ => rfl) (fun s42 => ?_) (fun _ _ => rfl)
          · refine j_bind fun t44 ht44 => ?_
            refine j_bind fun t47 ht47 => ?_
            refine j_bind fun t48 ht48 => ?_
            refine j_ifR (t_not (t_val (EJ.of (d' := eB t48) (e_callK (ok__law_is C) (Nat.le_of_ble_eq_true rfl) rfl (a_cons (EJ.of (d' := (eO (eP4 eI eI eI eI)) t44) (e_callK (ok_whereabouts C) (Nat.le_of_ble_eq_true rfl) rfl (a_cons (e_var (i := 6) rfl (.inl rfl) rfl) (a_cons (e_var (i := 3) rfl (.inl rfl) rfl) (a_cons (e_var (i := 11) rfl (.inl rfl) rfl) a_nil (fun _ _ => rfl)) (fun _ _ => rfl)) (fun _ _ => rfl)) ⟨j23, pace9, x43, t44, rfl, ht44, rfl⟩ rfl (fun _ _ => rfl) (fun _ => rfl) (by decide)) rfl) (a_cons (EO.elim (eo_if (encB := (eO (eP4 eI eI eI eI))) (t_val (e_var (i := 10) rfl (.inl rfl) rfl) (fun _ _ => rfl)) (fun _ => (eo_bind fun t45 ht45 => (eo_bind fun t46 ht46 => (eo_some (encB := (eO (eP4 eI eI eI eI))) (EJ.into (enc := (eP4 eI eI eI eI)) (EJ.of (d' := (eP4 eI eI eI eI) (t45.1, t45.2, t46.1, t46.2)) (e_cat (e_ixT (enc := (eP2 eI eI)) (xs := rows29) (EJ.ql (e_var (i := 7) rfl (.inr (.inl rfl)) rfl)) (e_var (i := 11) rfl (.inl rfl) rfl) ht45 (fun _ _ => rfl)) (e_ixT (enc := (eP2 eI eI)) (xs := columns31) (EJ.ql (e_var (i := 8) rfl (.inr (.inl rfl)) rfl)) (e_var (i := 11) rfl (.inl rfl) rfl) ht46 (fun _ _ => rfl)) (by show (2 + 2 : Nat) ≤ 16777216; decide)) rfl)))))) (fun _ => (eo_some (encB := (eO (eP4 eI eI eI eI))) (EJ.of (d' := (eO (eP4 eI eI eI eI)) none) e_non rfl)))) ht47) a_nil (fun _ _ => rfl)) (fun _ _ => rfl)) ⟨((eO (eP4 eI eI eI eI)) t44), ((eO (eP4 eI eI eI eI)) t47), t48, rfl, ht48, rfl⟩ rfl (fun _ _ => rfl) (fun _ => rfl) (by decide)) rfl) (fun _ _ => rfl))) (fun hc => ?_) (fun hc => ?_)
            · exact j_ret e_bl rfl
            · refine j_to (γ2 := [.sh ((eL eI) script1), .un, .sh ((eL eI) draws7), .sh (eI pace9), .sh (eI last11), .sh ((eT (eP2 eI eI)) cells13), .sh ((eT (eP4 eI eI eI eI)) j23), .sh ((eL (eP2 eI eI)) rows29), .sh ((eL (eP2 eI eI)) columns31), .un, .sh (eB heard36), .sh (eI x43), .un, .un, .un, .un, .un, .un, .un, .un]) rfl ?_
              exact j_nil (⟨rfl, ⟨rfl, ⟨rfl, ⟨rfl, ⟨rfl, ⟨rfl, ⟨rfl, ⟨rfl, ⟨rfl, trivial⟩⟩⟩⟩⟩⟩⟩⟩⟩)
          · refine j_bind fun r49 hr49 => ?_
            refine j_bind fun lows54 hlows54 => ?_
            refine j_set (i := 12) ⟨nd_law, rfl, .inl rfl, .inr rfl⟩ (e_tuple (k := .l) rfl C.b_tuple (FJ.q (f_lc (own := [("at", 16)]) (enc := eI) (encB := (eP2 eI eI)) (xs := r49) (f := (fun (x50 : Int) => ((atI rows29 x50).bind fun t51 => ((atI columns31 x50).bind fun t52 => (some (some (t51.1, t52.1))))))) (IW.x (i_range1O rfl C.b_range (e_add (e_var (i := 4) rfl (.inl rfl) rfl) e_int) (fun _ _ => rfl) hr49)) (fun x50 _ => (cb_bind fun t51 ht51 => (cb_bind fun t52 ht52 => (cb0T (y := (t51.1, t52.1)) (g_name (i := 16) ⟨nd_law, rfl, .inl rfl, .inr rfl⟩) (by decide) (EJ.of (d' := ((eP2 eI eI) (t51.1, t52.1))) (e_tup (a_cons (e_ixC (i := 0) (e_ixT (enc := (eP2 eI eI)) (xs := rows29) (EJ.ql (e_var (i := 7) rfl (.inr (.inl rfl)) rfl)) (e_var (i := 16) rfl (.inl rfl) rfl) ht51 (fun _ _ => rfl)) rfl) (a_cons (e_ixC (i := 0) (e_ixT (enc := (eP2 eI eI)) (xs := columns31) (EJ.ql (e_var (i := 8) rfl (.inr (.inl rfl)) rfl)) (e_var (i := 16) rfl (.inl rfl) rfl) ht52 (fun _ _ => rfl)) rfl) a_nil (fun _ _ => rfl)) (fun _ _ => rfl)) (len_le (n := 2) rfl (by decide))) rfl))))) hlows54 nd_law rfl (by decide) (fun _ _ => rfl))) (fun _ _ => rfl)) (fun _ _ => rfl) ?_
            refine j_bind fun r55 hr55 => ?_
            refine j_bind fun highs60 hhighs60 => ?_
            refine j_set (i := 13) ⟨nd_law, rfl, .inl rfl, .inr rfl⟩ (e_tuple (k := .l) rfl C.b_tuple (FJ.q (f_lc (own := [("at", 16)]) (enc := eI) (encB := (eP2 eI eI)) (xs := r55) (f := (fun (x56 : Int) => ((atI rows29 x56).bind fun t57 => ((atI columns31 x56).bind fun t58 => (some (some (t57.2, t58.2))))))) (IW.x (i_range1O rfl C.b_range (e_add (e_var (i := 4) rfl (.inl rfl) rfl) e_int) (fun _ _ => rfl) hr55)) (fun x56 _ => (cb_bind fun t57 ht57 => (cb_bind fun t58 ht58 => (cb0T (y := (t57.2, t58.2)) (g_name (i := 16) ⟨nd_law, rfl, .inl rfl, .inr rfl⟩) (by decide) (EJ.of (d' := ((eP2 eI eI) (t57.2, t58.2))) (e_tup (a_cons (e_ixC (i := 1) (e_ixT (enc := (eP2 eI eI)) (xs := rows29) (EJ.ql (e_var (i := 7) rfl (.inr (.inl rfl)) rfl)) (e_var (i := 16) rfl (.inl rfl) rfl) ht57 (fun _ _ => rfl)) rfl) (a_cons (e_ixC (i := 1) (e_ixT (enc := (eP2 eI eI)) (xs := columns31) (EJ.ql (e_var (i := 8) rfl (.inr (.inl rfl)) rfl)) (e_var (i := 16) rfl (.inl rfl) rfl) ht58 (fun _ _ => rfl)) rfl) a_nil (fun _ _ => rfl)) (fun _ _ => rfl)) (len_le (n := 2) rfl (by decide))) rfl))))) hhighs60 nd_law rfl (by decide) (fun _ _ => rfl))) (fun _ _ => rfl)) (fun _ _ => rfl) ?_
            refine j_bind fun t61 ht61 => ?_
            refine j_bind fun t62 ht62 => ?_
            refine j_ifR (t_not (t_val (EJ.of (d' := eB t62) (e_callK (ok__law_is C) (Nat.le_of_ble_eq_true rfl) rfl (a_cons (EJ.of (d' := (eO (eT (eP2 eI eI))) t61) (e_callK (ok_told_walk C) (Nat.le_of_ble_eq_true rfl) rfl (a_cons (e_var (i := 6) rfl (.inl rfl) rfl) (a_cons (e_var (i := 3) rfl (.inl rfl) rfl) (a_cons (e_var (i := 4) rfl (.inl rfl) rfl) a_nil (fun _ _ => rfl)) (fun _ _ => rfl)) (fun _ _ => rfl)) ⟨j23, pace9, last11, t61, rfl, ht61, rfl⟩ rfl (fun _ _ => rfl) (fun _ => rfl) (by decide)) rfl) (a_cons (e_if (enc := (eO (eT (eP2 eI eI)))) (t_val (e_var (i := 10) rfl (.inl rfl) rfl) (fun _ _ => rfl)) (fun _ => (EJ.into (enc := (eT (eP2 eI eI))) (e_var (i := 12) rfl (.inl rfl) rfl))) (fun _ => (EJ.of (d' := (eO (eT (eP2 eI eI))) none) e_non rfl))) a_nil (fun _ _ => rfl)) (fun _ _ => rfl)) ⟨((eO (eT (eP2 eI eI))) t61), ((eO (eT (eP2 eI eI))) (if heard36 = true then (some lows54) else none)), t62, rfl, ht62, rfl⟩ rfl (fun _ _ => rfl) (fun _ => rfl) (by decide)) rfl) (fun _ _ => rfl))) (fun hc => ?_) (fun hc => ?_)
            · exact j_ret e_bl rfl
            · refine j_bind fun t67 ht67 => ?_
              refine j_bind fun t68 ht68 => ?_
              refine j_bind fun t69 ht69 => ?_
              refine j_bind fun t70 ht70 => ?_
              refine j_bind fun odd71 hodd71 => ?_
              refine j_set (i := 14) ⟨nd_law, rfl, .inl rfl, .inr rfl⟩ (EJ.of (FJ.ej (FJ.of (ds' := List.map (eP2 eI eI) [((100000000000000000000 : Int), (0 : Int)), ((0 : Int), ((0 : Int) - (100000000000000000000 : Int))), t67, t68, ((t69.1 + (1 : Int)), t70.2)]) (f_lst (a_cons (EJ.of (d' := ((eP2 eI eI) ((100000000000000000000 : Int), (0 : Int)))) (e_tup (a_cons (EJ.of (d' := .int 100000000000000000000) (e_pow e_int e_int ⟨by decide, by decide, by decide⟩) rfl) (a_cons e_int a_nil (fun _ _ => rfl)) (fun _ _ => rfl)) (len_le (n := 2) rfl (by decide))) rfl) (a_cons (EJ.of (d' := ((eP2 eI eI) ((0 : Int), ((0 : Int) - (100000000000000000000 : Int))))) (e_tup (a_cons e_int (a_cons (e_sub e_int (EJ.of (d' := .int 100000000000000000000) (e_pow e_int e_int ⟨by decide, by decide, by decide⟩) rfl)) a_nil (fun _ _ => rfl)) (fun _ _ => rfl)) (len_le (n := 2) rfl (by decide))) rfl) (a_cons (e_ixT (enc := (eP2 eI eI)) (xs := lows54) (EJ.qt (e_var (i := 12) rfl (.inl rfl) rfl)) e_int ht67 (fun _ _ => rfl)) (a_cons (e_ixT (enc := (eP2 eI eI)) (xs := highs60) (EJ.qt (e_var (i := 13) rfl (.inl rfl) rfl)) (e_neg e_int) ht68 (fun _ _ => rfl)) (a_cons (EJ.of (d' := ((eP2 eI eI) ((t69.1 + (1 : Int)), t70.2))) (e_tup (a_cons (e_add (e_ixC (i := 0) (e_ixT (enc := (eP2 eI eI)) (xs := lows54) (EJ.qt (e_var (i := 12) rfl (.inl rfl) rfl)) (e_neg e_int) ht69 (fun _ _ => rfl)) rfl) e_int) (a_cons (e_ixC (i := 1) (e_ixT (enc := (eP2 eI eI)) (xs := lows54) (EJ.qt (e_var (i := 12) rfl (.inl rfl) rfl)) (e_neg e_int) ht70 (fun _ _ => rfl)) rfl) a_nil (fun _ _ => rfl)) (fun _ _ => rfl)) (len_le (n := 2) rfl (by decide))) rfl) a_nil (fun _ _ => rfl)) (fun _ _ => rfl)) (fun _ _ => rfl)) (fun _ _ => rfl)) (fun _ _ => rfl)) (len_le (n := 5) rfl (by decide))) rfl)) (congrArg (eL (eP2 eI eI)) (Option.some.inj hodd71))) (fun _ _ => rfl) ?_
              refine j_bind fun t75 ht75 => ?_
              refine j_bind fun t76 ht76 => ?_
              refine j_bind fun t77 ht77 => ?_
              refine j_bind fun odd79 hodd79 => ?_
              refine j_set (i := 14) ⟨nd_law, rfl, .inl rfl, .inr rfl⟩ (FJ.ej (f_catO (enc := (eP2 eI eI)) (EJ.ql (e_var (i := 14) rfl (.inl rfl) rfl)) (FJ.q (FJ.of (ds' := List.map (eP2 eI eI) [(t75.1, ((t76.2 - pace9) - (1 : Int))), t77]) (f_lst (a_cons (EJ.of (d' := ((eP2 eI eI) (t75.1, ((t76.2 - pace9) - (1 : Int))))) (e_tup (a_cons (e_ixC (i := 0) (e_ixT (enc := (eP2 eI eI)) (xs := cells13) (EJ.qt (e_var (i := 5) rfl (.inl rfl) rfl)) e_int ht75 (fun _ _ => rfl)) rfl) (a_cons (e_sub (e_sub (e_ixC (i := 1) (e_ixT (enc := (eP2 eI eI)) (xs := cells13) (EJ.qt (e_var (i := 5) rfl (.inl rfl) rfl)) e_int ht76 (fun _ _ => rfl)) rfl) (e_var (i := 3) rfl (.inl rfl) rfl)) e_int) a_nil (fun _ _ => rfl)) (fun _ _ => rfl)) (len_le (n := 2) rfl (by decide))) rfl) (a_cons (e_ixT (enc := (eP2 eI eI)) (xs := cells13) (EJ.qt (e_var (i := 5) rfl (.inl rfl) rfl)) (e_neg e_int) ht77 (fun _ _ => rfl)) a_nil (fun _ _ => rfl)) (fun _ _ => rfl)) (len_le (n := 2) rfl (by decide))) rfl)) hodd79)) (fun _ _ => rfl) ?_
              refine j_bind fun asked80 hasked80 => ?_
              refine j_setF (i := 15) ⟨nd_law, rfl, .inl rfl, .inr rfl⟩ (FJ.of (FJ.of (ds' := List.map (eT (eP2 eI eI)) [lows54, highs60, cells13]) (f_lst (a_cons (e_var (i := 12) rfl (.inl rfl) rfl) (a_cons (e_var (i := 13) rfl (.inl rfl) rfl) (a_cons (e_var (i := 5) rfl (.inl rfl) rfl) a_nil (fun _ _ => rfl)) (fun _ _ => rfl)) (fun _ _ => rfl)) (len_le (n := 3) rfl (by decide))) rfl) (congrArg (List.map (eT (eP2 eI eI))) (Option.some.inj hasked80))) (fun _ _ => rfl) ?_
              refine j_bind fun r81 hr81 => ?_
              refine j_to (γ2 := [.sh ((eL eI) script1), .un, .sh ((eL eI) draws7), .sh (eI pace9), .sh (eI last11), .sh ((eT (eP2 eI eI)) cells13), .sh ((eT (eP4 eI eI eI eI)) j23), .sh ((eL (eP2 eI eI)) rows29), .sh ((eL (eP2 eI eI)) columns31), .un, .sh (eB heard36), .un, .sh ((eT (eP2 eI eI)) lows54), .sh ((eT (eP2 eI eI)) highs60), .sh ((eL (eP2 eI eI)) odd79), .ow (.list (List.map (eT (eP2 eI eI)) asked80)), .un, .un, .un, .un]) rfl ?_
              refine j_for (enc := eI) (xs := r81) (γ0 := fun (s82 : ((List (List (Int × Int))))) => [.sh ((eL eI) script1), .un, .sh ((eL eI) draws7), .sh (eI pace9), .sh (eI last11), .un, .sh ((eT (eP4 eI eI eI eI)) j23), .un, .un, .un, .un, .un, .un, .un, .sh ((eL (eP2 eI eI)) odd79), .ow (.list (List.map (eT (eP2 eI eI)) s82)), .un, .un, .un, .un]) (t0 := (asked80)) (i_range1O rfl C.b_range e_int (fun _ _ => rfl) hr81) (⟨rfl, ⟨rfl, ⟨rfl, ⟨rfl, ⟨rfl, ⟨rfl, ⟨rfl, trivial⟩⟩⟩⟩⟩⟩⟩) (fun s82 x83 hx83 => ⟨_, _, (g_name (i := 16) ⟨nd_law, rfl, .inl rfl, .inr rfl⟩), ?_⟩) (fun s82 => ?_) (fun _ _ => rfl)
              · refine j_bind fun t84 ht84 => ?_
                refine j_bind fun base86 hbase86 => ?_
                refine j_set (i := 19) ⟨nd_law, rfl, .inl rfl, .inr rfl⟩ (e_ixT (enc := (eT (eP2 eI eI))) (xs := s82) (q_own (i := 15) (ds := List.map (eT (eP2 eI eI)) s82) rfl (.inl rfl) rfl) (e_mod (e_int1 rfl C.b_int (e_ixT (enc := eI) (xs := draws7) (EJ.ql (e_var (i := 2) rfl (.inl rfl) rfl)) (e_add e_int (e_var (i := 16) rfl (.inl rfl) rfl)) ht84 (fun _ _ => rfl)) (fun _ _ => rfl)) e_int (by decide)) hbase86 (fun _ _ => rfl)) (fun _ _ => rfl) ?_
                refine j_bind fun t87 ht87 => ?_
                refine j_bind fun asked88 hasked88 => ?_
                refine j_appO (j := 15) (enc := (eT (eP2 eI eI))) (xs := s82) (zs := asked88) rfl (.inl rfl) rfl (EJ.of (d' := (eT (eP2 eI eI)) t87) (e_callK (ok__law_bent_row C) (Nat.le_of_ble_eq_true rfl) rfl (a_cons (e_var (i := 19) rfl (.inl rfl) rfl) (a_cons (FJ.ej (f_slT (enc := eI) (EJ.ql (e_var (i := 2) rfl (.inl rfl) rfl)) (o_some (e_add e_int (e_mul e_int (e_var (i := 16) rfl (.inl rfl) rfl) (.inl (by decide))))) (o_some (e_add e_int (e_mul e_int (e_var (i := 16) rfl (.inl rfl) rfl) (.inl (by decide))))))) (a_cons (e_var (i := 14) rfl (.inl rfl) rfl) a_nil (fun _ _ => rfl)) (fun _ _ => rfl)) (fun _ _ => rfl)) ⟨base86, (cut draws7 (some ((27 : Int) + ((3 : Int) * x83))) (some ((30 : Int) + ((3 : Int) * x83)))), odd79, t87, rfl, ht87, rfl⟩ rfl (fun _ _ => rfl) (fun _ => rfl) (by decide)) rfl) hasked88 (fun _ _ => rfl) (by decide) (by decide) (fun _ => rfl) rfl ?_
                refine j_to (γ2 := [.sh ((eL eI) script1), .un, .sh ((eL eI) draws7), .sh (eI pace9), .sh (eI last11), .un, .sh ((eT (eP4 eI eI eI eI)) j23), .un, .un, .un, .un, .un, .un, .un, .sh ((eL (eP2 eI eI)) odd79), .ow (.list (List.map (eT (eP2 eI eI)) asked88)), .sh (eI x83), .un, .un, .sh ((eT (eP2 eI eI)) base86)]) rfl ?_
                exact j_nil (⟨rfl, ⟨rfl, ⟨rfl, ⟨rfl, ⟨rfl, ⟨rfl, ⟨rfl, trivial⟩⟩⟩⟩⟩⟩⟩)
              · refine j_share (j := 15) rfl ?_
                refine j_to (γ2 := [.sh ((eL eI) script1), .un, .sh ((eL eI) draws7), .sh (eI pace9), .sh (eI last11), .un, .sh ((eT (eP4 eI eI eI eI)) j23), .un, .un, .un, .un, .un, .un, .un, .sh ((eL (eP2 eI eI)) odd79), .sh ((eL (eT (eP2 eI eI))) s82), .un, .un, .un, .un]) rfl ?_
                refine j_forR (enc := (eT (eP2 eI eI))) (xs := s82) (encR := eB) (γ0 := fun (s89 : Unit) => [.sh ((eL eI) script1), .un, .un, .sh (eI pace9), .sh (eI last11), .un, .sh ((eT (eP4 eI eI eI eI)) j23), .un, .un, .un, .un, .un, .un, .un, .un, .un, .un, .un, .un, .un]) (t0 := ()) (i_list (e_var (i := 15) rfl (.inl rfl) rfl)) (⟨rfl, ⟨rfl, ⟨rfl, ⟨rfl, trivial⟩⟩⟩⟩) (fun s89 x90 hx90 => ⟨_, _, (g_name (i := 17) ⟨nd_law, rfl, .inl rfl, .inr rfl⟩), ?_⟩) (fun _ => rfl) (fun s89 => ?_) (fun _ _ => rfl)
                · refine j_bind fun t91 ht91 => ?_
                  refine j_bind fun t92 ht92 => ?_
                  refine j_bind fun t93 ht93 => ?_
                  refine j_ifR (t_not (t_val (EJ.of (d' := eB t93) (e_callK (ok__law_is C) (Nat.le_of_ble_eq_true rfl) rfl (a_cons (EJ.of (d' := eB t91) (e_callK (ok_is_heard_walk C) (Nat.le_of_ble_eq_true rfl) rfl (a_cons (e_var (i := 6) rfl (.inl rfl) rfl) (a_cons (e_var (i := 3) rfl (.inl rfl) rfl) (a_cons (e_var (i := 4) rfl (.inl rfl) rfl) (a_cons (e_var (i := 17) rfl (.inl rfl) rfl) a_nil (fun _ _ => rfl)) (fun _ _ => rfl)) (fun _ _ => rfl)) (fun _ _ => rfl)) ⟨j23, pace9, last11, x90, t91, rfl, ht91, rfl⟩ rfl (fun _ _ => rfl) (fun _ => rfl) (by decide)) rfl) (a_cons (EJ.of (d' := eB t92) (e_callK (ok__law_heard C) (Nat.le_of_ble_eq_true rfl) rfl (a_cons (e_var (i := 6) rfl (.inl rfl) rfl) (a_cons (e_var (i := 3) rfl (.inl rfl) rfl) (a_cons (e_var (i := 4) rfl (.inl rfl) rfl) (a_cons (e_var (i := 17) rfl (.inl rfl) rfl) a_nil (fun _ _ => rfl)) (fun _ _ => rfl)) (fun _ _ => rfl)) (fun _ _ => rfl)) ⟨j23, pace9, last11, x90, t92, rfl, ht92, rfl⟩ rfl (fun _ _ => rfl) (fun _ => rfl) (by decide)) rfl) a_nil (fun _ _ => rfl)) (fun _ _ => rfl)) ⟨(eB t91), (eB t92), t93, rfl, ht93, rfl⟩ rfl (fun _ _ => rfl) (fun _ => rfl) (by decide)) rfl) (fun _ _ => rfl))) (fun hc => ?_) (fun hc => ?_)
                  · exact j_ret e_bl rfl
                  · refine j_to (γ2 := [.sh ((eL eI) script1), .un, .un, .sh (eI pace9), .sh (eI last11), .un, .sh ((eT (eP4 eI eI eI eI)) j23), .un, .un, .un, .un, .un, .un, .un, .un, .un, .un, .sh ((eT (eP2 eI eI)) x90), .un, .un]) rfl ?_
                    exact j_nil (⟨rfl, ⟨rfl, ⟨rfl, ⟨rfl, trivial⟩⟩⟩⟩)
                · refine j_to (γ2 := [.sh ((eL eI) script1), .un, .un, .sh (eI pace9), .sh (eI last11), .un, .sh ((eT (eP4 eI eI eI eI)) j23), .un, .un, .un, .un, .un, .un, .un, .un, .un, .un, .un, .un, .un]) rfl ?_
                  exact j_nil (⟨rfl, trivial⟩)
  · exact j_ret e_bl rfl
theorem ok_law (C : Gl K mg base tabs) : Known P w K mg base tabs 9 "law" 1 R_law := known_of (k := 8) C.d_law sc_law fun cdv B F0 ds r _ hr => by
  obtain ⟨script1, y, rfl, hy, rfl⟩ := hr
  exact (j_law C cdv B F0 script1).body hy
end
end K71

set_option autoImplicit false
set_option Elab.async false
set_option linter.all false
set_option maxRecDepth 100000
set_option maxHeartbeats 4000000
namespace K71
open PySem PySem.Spec PyProof.Rows L2 SM
theorem ok_law_fn {P : Program} {w : World} {K : PySem.W.Frag} {mg : Str → Option Value} {base : Heap} {tabs : List Addr} {f : Addr} {fd : FuncData} (C : Gl K mg base tabs) (Fn : Fun K "law" "law" s_law f fd) : FnOk P w K mg base CX0 9 f fd ["script"] (spR K tabs 1 R_law) :=
  def_ok (k := 8) Fn sc_law fun cdv B F0 ds r _ hr => by
    obtain ⟨x, y, rfl, hy, rfl⟩ := hr
    exact (j_law C cdv B F0 x).body hy
theorem all_mk {l : PySem.W.OpenLaw} {w : World} {K : PySem.W.Frag} {h : Heap} {mg : Str → Option Value} {fa : Addr} {q : Program}
    {f0 : Addr} {od0 an0 : Option Addr} {sl0 : Array (Option Value)} {oc0 kV0 dc0 pm0 cd0 ct0 : Value}
    {f1 : Addr} {od1 an1 : Option Addr} {sl1 : Array (Option Value)} {oc1 kV1 dc1 pm1 cd1 ct1 : Value}
    {f2 : Addr} {od2 an2 : Option Addr} {sl2 : Array (Option Value)} {oc2 kV2 dc2 pm2 cd2 ct2 : Value}
    {f3 : Addr} {od3 an3 : Option Addr} {sl3 : Array (Option Value)} {oc3 kV3 dc3 pm3 cd3 ct3 : Value}
    {f4 : Addr} {od4 an4 : Option Addr} {sl4 : Array (Option Value)} {oc4 kV4 dc4 pm4 cd4 ct4 : Value}
    {f5 : Addr} {od5 an5 : Option Addr} {sl5 : Array (Option Value)} {oc5 kV5 dc5 pm5 cd5 ct5 : Value}
    {f6 : Addr} {od6 an6 : Option Addr} {sl6 : Array (Option Value)} {oc6 kV6 dc6 pm6 ct6 : Value} {cc6 PP6 : Addr} {dd6 : DefRec} {oq6 : Value} {odq6 : Option Addr} {slq6 : Array (Option Value)} {vs6 : Array Value}
    {f7 : Addr} {od7 an7 : Option Addr} {sl7 : Array (Option Value)} {oc7 kV7 dc7 pm7 cd7 ct7 : Value}
    {f8 : Addr} {od8 an8 : Option Addr} {sl8 : Array (Option Value)} {oc8 kV8 dc8 pm8 cd8 ct8 : Value}
    {f9 : Addr} {od9 an9 : Option Addr} {sl9 : Array (Option Value)} {oc9 kV9 dc9 pm9 cd9 ct9 : Value}
    {f10 : Addr} {od10 an10 : Option Addr} {sl10 : Array (Option Value)} {oc10 kV10 dc10 pm10 cd10 ct10 : Value}
    {f11 : Addr} {od11 an11 : Option Addr} {sl11 : Array (Option Value)} {oc11 kV11 dc11 pm11 cd11 ct11 : Value}
    {f12 : Addr} {od12 an12 : Option Addr} {sl12 : Array (Option Value)} {oc12 kV12 dc12 pm12 cd12 ct12 : Value}
    {f13 : Addr} {od13 an13 : Option Addr} {sl13 : Array (Option Value)} {oc13 kV13 dc13 pm13 cd13 ct13 : Value}
    {f14 : Addr} {od14 an14 : Option Addr} {sl14 : Array (Option Value)} {oc14 kV14 dc14 pm14 cd14 ct14 : Value}
    {f15 : Addr} {od15 an15 : Option Addr} {sl15 : Array (Option Value)} {oc15 kV15 dc15 pm15 cd15 ct15 : Value}
    {f16 : Addr} {od16 an16 : Option Addr} {sl16 : Array (Option Value)} {oc16 kV16 dc16 pm16 cd16 ct16 : Value}
    {f17 : Addr} {od17 an17 : Option Addr} {sl17 : Array (Option Value)} {oc17 kV17 dc17 pm17 cd17 ct17 : Value}
    {f18 : Addr} {od18 an18 : Option Addr} {sl18 : Array (Option Value)} {oc18 kV18 dc18 pm18 cd18 ct18 : Value}
    {f19 : Addr} {od19 an19 : Option Addr} {sl19 : Array (Option Value)} {oc19 kV19 dc19 pm19 cd19 ct19 : Value}
    (hT : ∀ (y : Str) (dd : DefRec) (c P : Addr), (recsOf q).find? (fun e => e.name == y) = some dd → PySem.W.tabIn K y = some (c, P) → PySem.W.CodeHd h c P ∧ h.get? P = some { cls := .none, data := .fields #[] }) (X : K.In h) (G : h.Ns mainGlobals mg) (hfa : mg "law" = some (.ref fa))
    (a0 : PySem.W.nsIn K mainGlobals "do_quarrel" = some (some (.ref f0))) (l0 : K.lookup f0 = some ⟨oc0, od0, .func (PySem.W.fnOf "do_quarrel" "do_quarrel" (defArgs s_do_quarrel) (defBody s_do_quarrel) (defScope s_do_quarrel) .none kV0 dc0 pm0 an0 cd0 ct0), sl0⟩) (c0 : PySem.W.codeIn K cd0 "do_quarrel" = true) (k0 : PySem.W.keepIn K (.ref f0) = true)
    (a1 : PySem.W.nsIn K mainGlobals "told_call_quarrel" = some (some (.ref f1))) (l1 : K.lookup f1 = some ⟨oc1, od1, .func (PySem.W.fnOf "told_call_quarrel" "told_call_quarrel" (defArgs s_told_call_quarrel) (defBody s_told_call_quarrel) (defScope s_told_call_quarrel) .none kV1 dc1 pm1 an1 cd1 ct1), sl1⟩) (c1 : PySem.W.codeIn K cd1 "told_call_quarrel" = true) (k1 : PySem.W.keepIn K (.ref f1) = true)
    (a2 : PySem.W.nsIn K mainGlobals "side_bounds" = some (some (.ref f2))) (l2 : K.lookup f2 = some ⟨oc2, od2, .func (PySem.W.fnOf "side_bounds" "side_bounds" (defArgs s_side_bounds) (defBody s_side_bounds) (defScope s_side_bounds) .none kV2 dc2 pm2 an2 cd2 ct2), sl2⟩) (c2 : PySem.W.codeIn K cd2 "side_bounds" = true) (k2 : PySem.W.keepIn K (.ref f2) = true)
    (a3 : PySem.W.nsIn K mainGlobals "whereabouts" = some (some (.ref f3))) (l3 : K.lookup f3 = some ⟨oc3, od3, .func (PySem.W.fnOf "whereabouts" "whereabouts" (defArgs s_whereabouts) (defBody s_whereabouts) (defScope s_whereabouts) .none kV3 dc3 pm3 an3 cd3 ct3), sl3⟩) (c3 : PySem.W.codeIn K cd3 "whereabouts" = true) (k3 : PySem.W.keepIn K (.ref f3) = true)
    (a4 : PySem.W.nsIn K mainGlobals "told_walk" = some (some (.ref f4))) (l4 : K.lookup f4 = some ⟨oc4, od4, .func (PySem.W.fnOf "told_walk" "told_walk" (defArgs s_told_walk) (defBody s_told_walk) (defScope s_told_walk) .none kV4 dc4 pm4 an4 cd4 ct4), sl4⟩) (c4 : PySem.W.codeIn K cd4 "told_walk" = true) (k4 : PySem.W.keepIn K (.ref f4) = true)
    (a5 : PySem.W.nsIn K mainGlobals "are_near" = some (some (.ref f5))) (l5 : K.lookup f5 = some ⟨oc5, od5, .func (PySem.W.fnOf "are_near" "are_near" (defArgs s_are_near) (defBody s_are_near) (defScope s_are_near) .none kV5 dc5 pm5 an5 cd5 ct5), sl5⟩) (c5 : PySem.W.codeIn K cd5 "are_near" = true) (k5 : PySem.W.keepIn K (.ref f5) = true)
    (a6 : PySem.W.nsIn K mainGlobals "is_heard_walk" = some (some (.ref f6))) (l6 : K.lookup f6 = some ⟨oc6, od6, .func (PySem.W.fnOf "is_heard_walk" "is_heard_walk" (defArgs s_is_heard_walk) (defBody s_is_heard_walk) (defScope s_is_heard_walk) .none kV6 dc6 pm6 an6 (.ref cc6) ct6), sl6⟩) (c6 : PySem.W.codeIn K (.ref cc6) "is_heard_walk" = true) (k6 : PySem.W.keepIn K (.ref f6) = true)
    (r6 : (recsOf q).find? (fun e => e.name == ("is_heard_walk" : Str)) = some dd6) (m6 : K.lookup cc6 = some ⟨oq6, odq6, .fields vs6, slq6⟩) (p6 : (vs6[11]? : Option Value) = some (.ref PP6)) (n6 : K.lookup PP6 = none)
    (a7 : PySem.W.nsIn K mainGlobals "_law_cell" = some (some (.ref f7))) (l7 : K.lookup f7 = some ⟨oc7, od7, .func (PySem.W.fnOf "_law_cell" "_law_cell" (defArgs s__law_cell) (defBody s__law_cell) (defScope s__law_cell) .none kV7 dc7 pm7 an7 cd7 ct7), sl7⟩) (c7 : PySem.W.codeIn K cd7 "_law_cell" = true) (k7 : PySem.W.keepIn K (.ref f7) = true)
    (a8 : PySem.W.nsIn K mainGlobals "_law_draws" = some (some (.ref f8))) (l8 : K.lookup f8 = some ⟨oc8, od8, .func (PySem.W.fnOf "_law_draws" "_law_draws" (defArgs s__law_draws) (defBody s__law_draws) (defScope s__law_draws) .none kV8 dc8 pm8 an8 cd8 ct8), sl8⟩) (c8 : PySem.W.codeIn K cd8 "_law_draws" = true) (k8 : PySem.W.keepIn K (.ref f8) = true)
    (a9 : PySem.W.nsIn K mainGlobals "_law_is_integer" = some (some (.ref f9))) (l9 : K.lookup f9 = some ⟨oc9, od9, .func (PySem.W.fnOf "_law_is_integer" "_law_is_integer" (defArgs s__law_is_integer) (defBody s__law_is_integer) (defScope s__law_is_integer) .none kV9 dc9 pm9 an9 cd9 ct9), sl9⟩) (c9 : PySem.W.codeIn K cd9 "_law_is_integer" = true) (k9 : PySem.W.keepIn K (.ref f9) = true)
    (a10 : PySem.W.nsIn K mainGlobals "_law_is" = some (some (.ref f10))) (l10 : K.lookup f10 = some ⟨oc10, od10, .func (PySem.W.fnOf "_law_is" "_law_is" (defArgs s__law_is) (defBody s__law_is) (defScope s__law_is) .none kV10 dc10 pm10 an10 cd10 ct10), sl10⟩) (c10 : PySem.W.codeIn K cd10 "_law_is" = true) (k10 : PySem.W.keepIn K (.ref f10) = true)
    (a11 : PySem.W.nsIn K mainGlobals "_law_bent_row" = some (some (.ref f11))) (l11 : K.lookup f11 = some ⟨oc11, od11, .func (PySem.W.fnOf "_law_bent_row" "_law_bent_row" (defArgs s__law_bent_row) (defBody s__law_bent_row) (defScope s__law_bent_row) .none kV11 dc11 pm11 an11 cd11 ct11), sl11⟩) (c11 : PySem.W.codeIn K cd11 "_law_bent_row" = true) (k11 : PySem.W.keepIn K (.ref f11) = true)
    (a12 : PySem.W.nsIn K mainGlobals "_law_hidden" = some (some (.ref f12))) (l12 : K.lookup f12 = some ⟨oc12, od12, .func (PySem.W.fnOf "_law_hidden" "_law_hidden" (defArgs s__law_hidden) (defBody s__law_hidden) (defScope s__law_hidden) .none kV12 dc12 pm12 an12 cd12 ct12), sl12⟩) (c12 : PySem.W.codeIn K cd12 "_law_hidden" = true) (k12 : PySem.W.keepIn K (.ref f12) = true)
    (a13 : PySem.W.nsIn K mainGlobals "_law_calls" = some (some (.ref f13))) (l13 : K.lookup f13 = some ⟨oc13, od13, .func (PySem.W.fnOf "_law_calls" "_law_calls" (defArgs s__law_calls) (defBody s__law_calls) (defScope s__law_calls) .none kV13 dc13 pm13 an13 cd13 ct13), sl13⟩) (c13 : PySem.W.codeIn K cd13 "_law_calls" = true) (k13 : PySem.W.keepIn K (.ref f13) = true)
    (a14 : PySem.W.nsIn K mainGlobals "_law_side" = some (some (.ref f14))) (l14 : K.lookup f14 = some ⟨oc14, od14, .func (PySem.W.fnOf "_law_side" "_law_side" (defArgs s__law_side) (defBody s__law_side) (defScope s__law_side) .none kV14 dc14 pm14 an14 cd14 ct14), sl14⟩) (c14 : PySem.W.codeIn K cd14 "_law_side" = true) (k14 : PySem.W.keepIn K (.ref f14) = true)
    (a15 : PySem.W.nsIn K mainGlobals "_law_quarrel" = some (some (.ref f15))) (l15 : K.lookup f15 = some ⟨oc15, od15, .func (PySem.W.fnOf "_law_quarrel" "_law_quarrel" (defArgs s__law_quarrel) (defBody s__law_quarrel) (defScope s__law_quarrel) .none kV15 dc15 pm15 an15 cd15 ct15), sl15⟩) (c15 : PySem.W.codeIn K cd15 "_law_quarrel" = true) (k15 : PySem.W.keepIn K (.ref f15) = true)
    (a16 : PySem.W.nsIn K mainGlobals "_law_pairs" = some (some (.ref f16))) (l16 : K.lookup f16 = some ⟨oc16, od16, .func (PySem.W.fnOf "_law_pairs" "_law_pairs" (defArgs s__law_pairs) (defBody s__law_pairs) (defScope s__law_pairs) .none kV16 dc16 pm16 an16 cd16 ct16), sl16⟩) (c16 : PySem.W.codeIn K cd16 "_law_pairs" = true) (k16 : PySem.W.keepIn K (.ref f16) = true)
    (a17 : PySem.W.nsIn K mainGlobals "_law_near" = some (some (.ref f17))) (l17 : K.lookup f17 = some ⟨oc17, od17, .func (PySem.W.fnOf "_law_near" "_law_near" (defArgs s__law_near) (defBody s__law_near) (defScope s__law_near) .none kV17 dc17 pm17 an17 cd17 ct17), sl17⟩) (c17 : PySem.W.codeIn K cd17 "_law_near" = true) (k17 : PySem.W.keepIn K (.ref f17) = true)
    (a18 : PySem.W.nsIn K mainGlobals "_law_heard" = some (some (.ref f18))) (l18 : K.lookup f18 = some ⟨oc18, od18, .func (PySem.W.fnOf "_law_heard" "_law_heard" (defArgs s__law_heard) (defBody s__law_heard) (defScope s__law_heard) .none kV18 dc18 pm18 an18 cd18 ct18), sl18⟩) (c18 : PySem.W.codeIn K cd18 "_law_heard" = true) (k18 : PySem.W.keepIn K (.ref f18) = true)
    (a19 : PySem.W.nsIn K mainGlobals "law" = some (some (.ref f19))) (l19 : K.lookup f19 = some ⟨oc19, od19, .func (PySem.W.fnOf "law" "law" (defArgs s_law) (defBody s_law) (defScope s_law) .none kV19 dc19 pm19 an19 cd19 ct19), sl19⟩) (c19 : PySem.W.codeIn K cd19 "law" = true) (k19 : PySem.W.keepIn K (.ref f19) = true)
    (z0 : PySem.W.nsIn K mainGlobals "abs" = some none)
    (z1 : PySem.W.nsIn K mainGlobals "all" = some none)
    (z2 : PySem.W.nsIn K mainGlobals "bool" = some none)
    (z3 : PySem.W.nsIn K mainGlobals "int" = some none)
    (z4 : PySem.W.nsIn K mainGlobals "isinstance" = some none)
    (z5 : PySem.W.nsIn K mainGlobals "len" = some none)
    (z6 : PySem.W.nsIn K mainGlobals "max" = some none)
    (z7 : PySem.W.nsIn K mainGlobals "min" = some none)
    (z8 : PySem.W.nsIn K mainGlobals "range" = some none)
    (z9 : PySem.W.nsIn K mainGlobals "str" = some none)
    (z10 : PySem.W.nsIn K mainGlobals "tuple" = some none) :
    LamX.LawAtS l w K CX0 9 63 "script" mg fa h := by
  have t6 : PySem.W.tabIn K "is_heard_walk" = some (cc6, PP6) := tabIn_of a6 l6 rfl m6 p6
  have e := hfa.symm.trans (PySem.W.mg_of X G a19)
  cases e
  have F0 := fun_mk (st := s_do_quarrel) l0 c0 k0
  have D0 : GDef K mg "do_quarrel" s_do_quarrel ["one", "other", "pace"] := ⟨_, _, F0, (F0.binds (ps := ["one", "other", "pace"]) (fun _ _ _ _ _ _ us hl => match us, hl with | [_, _, _], _ => rfl)), PySem.W.mg_of X G a0⟩
  have F1 := fun_mk (st := s_told_call_quarrel) l1 c1 k1
  have D1 : GDef K mg "told_call_quarrel" s_told_call_quarrel ["calls", "pace"] := ⟨_, _, F1, (F1.binds (ps := ["calls", "pace"]) (fun _ _ _ _ _ _ us hl => match us, hl with | [_, _], _ => rfl)), PySem.W.mg_of X G a1⟩
  have F2 := fun_mk (st := s_side_bounds) l2 c2 k2
  have D2 : GDef K mg "side_bounds" s_side_bounds ["calls", "pace", "time", "side"] := ⟨_, _, F2, (F2.binds (ps := ["calls", "pace", "time", "side"]) (fun _ _ _ _ _ _ us hl => match us, hl with | [_, _, _, _], _ => rfl)), PySem.W.mg_of X G a2⟩
  have F3 := fun_mk (st := s_whereabouts) l3 c3 k3
  have D3 : GDef K mg "whereabouts" s_whereabouts ["calls", "pace", "time"] := ⟨_, _, F3, (F3.binds (ps := ["calls", "pace", "time"]) (fun _ _ _ _ _ _ us hl => match us, hl with | [_, _, _], _ => rfl)), PySem.W.mg_of X G a3⟩
  have F4 := fun_mk (st := s_told_walk) l4 c4 k4
  have D4 : GDef K mg "told_walk" s_told_walk ["calls", "pace", "last"] := ⟨_, _, F4, (F4.binds (ps := ["calls", "pace", "last"]) (fun _ _ _ _ _ _ us hl => match us, hl with | [_, _, _], _ => rfl)), PySem.W.mg_of X G a4⟩
  have F5 := fun_mk (st := s_are_near) l5 c5 k5
  have D5 : GDef K mg "are_near" s_are_near ["one", "other", "room"] := ⟨_, _, F5, (F5.binds (ps := ["one", "other", "room"]) (fun _ _ _ _ _ _ us hl => match us, hl with | [_, _, _], _ => rfl)), PySem.W.mg_of X G a5⟩
  have F6 := fun_mk (st := s_is_heard_walk) l6 c6 k6
  have F7 := fun_mk (st := s__law_cell) l7 c7 k7
  have D7 : GDef K mg "_law_cell" s__law_cell ["script", "k"] := ⟨_, _, F7, (F7.binds (ps := ["script", "k"]) (fun _ _ _ _ _ _ us hl => match us, hl with | [_, _], _ => rfl)), PySem.W.mg_of X G a7⟩
  have F8 := fun_mk (st := s__law_draws) l8 c8 k8
  have D8 : GDef K mg "_law_draws" s__law_draws ["cell", "count"] := ⟨_, _, F8, (F8.binds (ps := ["cell", "count"]) (fun _ _ _ _ _ _ us hl => match us, hl with | [_, _], _ => rfl)), PySem.W.mg_of X G a8⟩
  have F9 := fun_mk (st := s__law_is_integer) l9 c9 k9
  have D9 : GDef K mg "_law_is_integer" s__law_is_integer ["value"] := ⟨_, _, F9, (F9.binds (ps := ["value"]) (fun _ _ _ _ _ _ us hl => match us, hl with | [_], _ => rfl)), PySem.W.mg_of X G a9⟩
  have F10 := fun_mk (st := s__law_is) l10 c10 k10
  have D10 : GDef K mg "_law_is" s__law_is ["value", "due"] := ⟨_, _, F10, (F10.binds (ps := ["value", "due"]) (fun _ _ _ _ _ _ us hl => match us, hl with | [_, _], _ => rfl)), PySem.W.mg_of X G a10⟩
  have F11 := fun_mk (st := s__law_bent_row) l11 c11 k11
  have D11 : GDef K mg "_law_bent_row" s__law_bent_row ["row", "draws", "items"] := ⟨_, _, F11, (F11.binds (ps := ["row", "draws", "items"]) (fun _ _ _ _ _ _ us hl => match us, hl with | [_, _, _], _ => rfl)), PySem.W.mg_of X G a11⟩
  have F12 := fun_mk (st := s__law_hidden) l12 c12 k12
  have D12 : GDef K mg "_law_hidden" s__law_hidden ["draws", "pace", "last"] := ⟨_, _, F12, (F12.binds (ps := ["draws", "pace", "last"]) (fun _ _ _ _ _ _ us hl => match us, hl with | [_, _, _], _ => rfl)), PySem.W.mg_of X G a12⟩
  have F13 := fun_mk (st := s__law_calls) l13 c13 k13
  have D13 : GDef K mg "_law_calls" s__law_calls ["draws", "cells", "free"] := ⟨_, _, F13, (F13.binds (ps := ["draws", "cells", "free"]) (fun _ _ _ _ _ _ us hl => match us, hl with | [_, _, _], _ => rfl)), PySem.W.mg_of X G a13⟩
  have F14 := fun_mk (st := s__law_side) l14 c14 k14
  have D14 : GDef K mg "_law_side" s__law_side ["calls", "pace", "size", "side"] := ⟨_, _, F14, (F14.binds (ps := ["calls", "pace", "size", "side"]) (fun _ _ _ _ _ _ us hl => match us, hl with | [_, _, _, _], _ => rfl)), PySem.W.mg_of X G a14⟩
  have F15 := fun_mk (st := s__law_quarrel) l15 c15 k15
  have D15 : GDef K mg "_law_quarrel" s__law_quarrel ["calls", "pace"] := ⟨_, _, F15, (F15.binds (ps := ["calls", "pace"]) (fun _ _ _ _ _ _ us hl => match us, hl with | [_, _], _ => rfl)), PySem.W.mg_of X G a15⟩
  have F16 := fun_mk (st := s__law_pairs) l16 c16 k16
  have D16 : GDef K mg "_law_pairs" s__law_pairs ["calls", "pace"] := ⟨_, _, F16, (F16.binds (ps := ["calls", "pace"]) (fun _ _ _ _ _ _ us hl => match us, hl with | [_, _], _ => rfl)), PySem.W.mg_of X G a16⟩
  have F17 := fun_mk (st := s__law_near) l17 c17 k17
  have D17 : GDef K mg "_law_near" s__law_near ["one", "other", "most"] := ⟨_, _, F17, (F17.binds (ps := ["one", "other", "most"]) (fun _ _ _ _ _ _ us hl => match us, hl with | [_, _, _], _ => rfl)), PySem.W.mg_of X G a17⟩
  have F18 := fun_mk (st := s__law_heard) l18 c18 k18
  have D18 : GDef K mg "_law_heard" s__law_heard ["calls", "pace", "last", "walk"] := ⟨_, _, F18, (F18.binds (ps := ["calls", "pace", "last", "walk"]) (fun _ _ _ _ _ _ us hl => match us, hl with | [_, _, _, _], _ => rfl)), PySem.W.mg_of X G a18⟩
  have F19 := fun_mk (st := s_law) l19 c19 k19
  have D19 : GDef K mg "law" s_law ["script"] := ⟨_, _, F19, (F19.binds (ps := ["script"]) (fun _ _ _ _ _ _ us hl => match us, hl with | [_], _ => rfl)), PySem.W.mg_of X G a19⟩
  refine ⟨PySem.W.fnOf "law" "law" (defArgs s_law) (defBody s_law) (defScope s_law) .none kV19 dc19 pm19 an19 cd19 ct19, [(cc6, PP6)], spR K (List.map (·.2) [(cc6, PP6)]) 1 R_law, (List.forall_mem_cons.mpr ⟨(hT _ _ _ _ r6 t6).2, (fun _ h => nomatch h)⟩), (List.forall_mem_cons.mpr ⟨n6, (fun _ h => nomatch h)⟩), (List.forall_mem_cons.mpr ⟨(hT _ _ _ _ r6 t6).1, (fun _ h => nomatch h)⟩), fun s v => .of_eq rfl, fun H a ns hl _ hH hS => sp_startT hH hS ⟨ns, true, rfl, law_true ns hl, rfl⟩, fun base _ _ TB => ?_⟩
  have D6 : GDefT K mg base (List.map (·.2) [(cc6, PP6)]) "is_heard_walk" s_is_heard_walk ["calls", "pace", "last", "walk"] := ⟨cc6, PP6, _, _, ⟨⟨_, _, _, _, _, _, _, _, rfl, l6, c6⟩, k6⟩, (F6.binds (ps := ["calls", "pace", "last", "walk"]) (fun _ _ _ _ _ _ us hl => match us, hl with | [_, _, _, _], _ => rfl)), PySem.W.mg_of X G a6, by simp, (fun t => ⟨t.code, t.bm, t.gP⟩) (TB (cc6, PP6) (by simp))⟩
  exact ok_law_fn ⟨PySem.W.mg_none_of X G z0, PySem.W.mg_none_of X G z1, PySem.W.mg_none_of X G z2, PySem.W.mg_none_of X G z3, PySem.W.mg_none_of X G z4, PySem.W.mg_none_of X G z5, PySem.W.mg_none_of X G z6, PySem.W.mg_none_of X G z7, PySem.W.mg_none_of X G z8, PySem.W.mg_none_of X G z9, PySem.W.mg_none_of X G z10, D0, D1, D2, D3, D4, D5, D6, D7, D8, D9, D10, D11, D12, D13, D14, D15, D16, D17, D18, D19⟩ F19
end K71
open PySem PySem.W PyProof.Rows
set_option maxHeartbeats 0 in
theorem PySem.Challenge.cw_slopeward_k71_whole_walks_that_calls_hea_holds : PySem.Challenge.rw_slopeward_k71_whole_walks_that_calls_hea.Holds := by
  w_on; o_law; k_head; (case hw => w_witness2)
  k_fill
  refine SM.walk_ofG (l := PySem.Challenge.rw_slopeward_k71_whole_walks_that_calls_hea) (n := 63) (k := 9) (x := "script") (CX := fun _ => L2.CX0) rfl (by decide) rfl ⟨rfl, by decide, by decide⟩ (fun w h Y => PySem.W.kIn_of Y) ?F (fun _ _ _ _ _ h => h)
  case F =>
    intro w mg fa h hT KX G hmg
    refine' K71.all_mk hT KX G hmg ?a0 ?l0 ?c0 ?k0 ?a1 ?l1 ?c1 ?k1 ?a2 ?l2 ?c2 ?k2 ?a3 ?l3 ?c3 ?k3 ?a4 ?l4 ?c4 ?k4 ?a5 ?l5 ?c5 ?k5 ?a6 ?l6 ?c6 ?k6 ?r6 ?m6 ?p6 ?n6 ?a7 ?l7 ?c7 ?k7 ?a8 ?l8 ?c8 ?k8 ?a9 ?l9 ?c9 ?k9 ?a10 ?l10 ?c10 ?k10 ?a11 ?l11 ?c11 ?k11 ?a12 ?l12 ?c12 ?k12 ?a13 ?l13 ?c13 ?k13 ?a14 ?l14 ?c14 ?k14 ?a15 ?l15 ?c15 ?k15 ?a16 ?l16 ?c16 ?k16 ?a17 ?l17 ?c17 ?k17 ?a18 ?l18 ?c18 ?k18 ?a19 ?l19 ?c19 ?k19 ?z0 ?z1 ?z2 ?z3 ?z4 ?z5 ?z6 ?z7 ?z8 ?z9 ?z10
    (case a0 => k_is)
    (case l0 => k_is)
    (case c0 => k_is)
    (case k0 => k_is)
    (case a1 => k_is)
    (case l1 => k_is)
    (case c1 => k_is)
    (case k1 => k_is)
    (case a2 => k_is)
    (case l2 => k_is)
    (case c2 => k_is)
    (case k2 => k_is)
    (case a3 => k_is)
    (case l3 => k_is)
    (case c3 => k_is)
    (case k3 => k_is)
    (case a4 => k_is)
    (case l4 => k_is)
    (case c4 => k_is)
    (case k4 => k_is)
    (case a5 => k_is)
    (case l5 => k_is)
    (case c5 => k_is)
    (case k5 => k_is)
    (case a6 => k_is)
    (case l6 => k_is)
    (case c6 => k_is)
    (case k6 => k_is)
    (case r6 => rfl)
    (case m6 => k_is)
    (case p6 => rfl)
    (case n6 => first | kernel_rfl | rfl)
    (case a7 => k_is)
    (case l7 => k_is)
    (case c7 => k_is)
    (case k7 => k_is)
    (case a8 => k_is)
    (case l8 => k_is)
    (case c8 => k_is)
    (case k8 => k_is)
    (case a9 => k_is)
    (case l9 => k_is)
    (case c9 => k_is)
    (case k9 => k_is)
    (case a10 => k_is)
    (case l10 => k_is)
    (case c10 => k_is)
    (case k10 => k_is)
    (case a11 => k_is)
    (case l11 => k_is)
    (case c11 => k_is)
    (case k11 => k_is)
    (case a12 => k_is)
    (case l12 => k_is)
    (case c12 => k_is)
    (case k12 => k_is)
    (case a13 => k_is)
    (case l13 => k_is)
    (case c13 => k_is)
    (case k13 => k_is)
    (case a14 => k_is)
    (case l14 => k_is)
    (case c14 => k_is)
    (case k14 => k_is)
    (case a15 => k_is)
    (case l15 => k_is)
    (case c15 => k_is)
    (case k15 => k_is)
    (case a16 => k_is)
    (case l16 => k_is)
    (case c16 => k_is)
    (case k16 => k_is)
    (case a17 => k_is)
    (case l17 => k_is)
    (case c17 => k_is)
    (case k17 => k_is)
    (case a18 => k_is)
    (case l18 => k_is)
    (case c18 => k_is)
    (case k18 => k_is)
    (case a19 => k_is)
    (case l19 => k_is)
    (case c19 => k_is)
    (case k19 => k_is)
    (case z0 => k_is)
    (case z1 => k_is)
    (case z2 => k_is)
    (case z3 => k_is)
    (case z4 => k_is)
    (case z5 => k_is)
    (case z6 => k_is)
    (case z7 => k_is)
    (case z8 => k_is)
    (case z9 => k_is)
    (case z10 => k_is)
