import PyProof.Rows.All
import HandS.ForMost
import HandS.Flow
import HandS.TupAny
import HandS.TupLe
import HandS.TupMul
import HandS.Zip
import HandS.Walk
import HandS.IsInst
import HandS.Deep
import HandS.Style
import KE.GoesEnum
import PySem.Challenge.RW_slopeward_k75_whole_larders_last_or_lack
set_option autoImplicit false
set_option Elab.async false
set_option linter.all false
set_option maxRecDepth 100000
set_option maxHeartbeats 4000000
/-! SM: data semantics over the hand layer: slots hold data (PyData), shared or owned -/
namespace SM
open PySem PySem.Spec PyProof.Rows L2

/-! ### heaps -/
structure Ext (H H' : Hp) : Prop where
  keep : ∀ a o, H a = some o → (∀ ps, o ≠ .tbl ps) → H' a = some o
  tab : ∀ a ps, H a = some (.tbl ps) → ∃ ps', H' a = some (.tbl ps') ∧ (TriplesOk ps.toList → TriplesOk ps'.toList)
theorem Ext.refl (H : Hp) : Ext H H := ⟨fun _ _ h _ => h, fun _ ps h => ⟨ps, h, id⟩⟩
theorem Ext.trans {H H1 H2 : Hp} (a : Ext H H1) (b : Ext H1 H2) : Ext H H2 where
  keep := fun c o h n => b.keep c o (a.keep c o h n) n
  tab := fun c ps h => by
    obtain ⟨p1, e1, t1⟩ := a.tab c ps h
    obtain ⟨p2, e2, t2⟩ := b.tab c p1 e1
    exact ⟨p2, e2, t2 ∘ t1⟩
theorem Ext.back {H H' : Hp} {a : Addr} (e : Ext H H') (h : H' a = none) : H a = none := by
  cases q : H a with
  | none => rfl
  | some o =>
    cases o with
    | tbl ps =>
      obtain ⟨p1, e1, _⟩ := e.tab a ps q
      rw [h] at e1; cases e1
    | _ =>
      have := e.keep a _ q (fun ps z => by cases z)
      rw [h] at this; cases this
theorem Ext.new {H : Hp} {p : Addr} {o : HO} (h : H p = none) : Ext H (upd H p o) where
  keep := fun a u e _ => by rw [upd_ne (ne_of_none e h)]; exact e
  tab := fun a ps e => ⟨ps, by rw [upd_ne (ne_of_none e h)]; exact e, id⟩
/-- an object that H does not know may change -/
theorem Ext.mut {H H' : Hp} {p : Addr} {o : HO} (e : Ext H H') (h : H p = none) : Ext H (upd H' p o) where
  keep := fun a u q n => by rw [upd_ne (ne_of_none q h)]; exact e.keep a u q n
  tab := fun a ps q => by rw [upd_ne (ne_of_none q h)]; exact e.tab a ps q

def Le (F F' : Hp) : Prop := ∀ a o, F a = some o → F' a = some o
theorem Le.refl (F : Hp) : Le F F := fun _ _ h => h
theorem Le.trans {F F1 F2 : Hp} (a : Le F F1) (b : Le F1 F2) : Le F F2 := fun c o h => b c o (a c o h)
theorem Le.new {F : Hp} {p : Addr} {o : HO} (h : F p = none) : Le F (upd F p o) := fun a u e => by rw [upd_ne (ne_of_none e h)]; exact e
theorem Le.rd {F F' : Hp} {a : Addr} {u : HO} (e : Le F F') (h : Rd F a u) : Rd F' a u := by
  rcases h with h | ⟨o, h⟩
  · exact .inl (e a _ h)
  · exact .inr ⟨o, e a _ h⟩
theorem Le.sqL {K : PySem.W.Frag} {F F' : Hp} {a : Addr} {xs : List V} (e : Le F F') (h : SqL K F a xs) : SqL K F' a xs := by
  rcases h with h | h
  · exact .inl (e.rd h)
  · exact .inr h
theorem Le.sqT {K : PySem.W.Frag} {F F' : Hp} {a : Addr} {xs : List V} (e : Le F F') (h : SqT K F a xs) : SqT K F' a xs := by
  rcases h with h | h
  · exact .inl (e.rd h)
  · exact .inr h
end SM
namespace L2
open PySem PySem.Spec PyProof.Rows
mutual
theorem Dp.zmono {K : PySem.W.Frag} {F F' : Hp} (e : SM.Le F F') : ∀ {v : V} {d : PyData}, Dp K F v d → Dp K F' v d
  | _, _, .non => .non
  | _, _, .bl b => .bl b
  | _, _, .int i => .int i
  | _, _, .str x => .str x
  | _, _, .lst h a => .lst (e.sqL h) (DpAll.zmono e a)
  | _, _, .tup h a => .tup (e.sqT h) (DpAll.zmono e a)
theorem DpAll.zmono {K : PySem.W.Frag} {F F' : Hp} (e : SM.Le F F') : ∀ {vs : List V} {ds : List PyData}, DpAll K F vs ds → DpAll K F' vs ds
  | _, _, .nil => .nil
  | _, _, .cons h a => .cons (Dp.zmono e h) (DpAll.zmono e a)
end
theorem DpAll.zlen {K : PySem.W.Frag} {F : Hp} : ∀ {vs : List V} {ds : List PyData}, DpAll K F vs ds → vs.length = ds.length
  | _, _, .nil => rfl
  | _, _, .cons _ a => congrArg (· + 1) a.zlen
theorem DpAll.zget {K : PySem.W.Frag} {F : Hp} : ∀ {vs : List V} {ds : List PyData} {i : Nat} {d : PyData}, DpAll K F vs ds → ds[i]? = some d → ∃ v, vs[i]? = some v ∧ Dp K F v d
  | _, _, _, _, .nil, e => by simp at e
  | _, _, 0, _, .cons h _, e => by simp at e; subst e; exact ⟨_, rfl, h⟩
  | _, _, i + 1, d, .cons _ a, e => by
    obtain ⟨v, h1, h2⟩ := DpAll.zget (i := i) (d := d) a (by simpa using e)
    exact ⟨v, by simpa using h1, h2⟩
theorem DpAll.zget' {K : PySem.W.Frag} {F : Hp} : ∀ {vs : List V} {ds : List PyData} {i : Nat} {v : V}, DpAll K F vs ds → vs[i]? = some v → ∃ d, ds[i]? = some d ∧ Dp K F v d
  | _, _, _, _, .nil, e => by simp at e
  | _, _, 0, _, .cons h _, e => by simp at e; subst e; exact ⟨_, rfl, h⟩
  | _, _, i + 1, d, .cons _ a, e => by
    obtain ⟨v, h1, h2⟩ := DpAll.zget' (i := i) (v := d) a (by simpa using e)
    exact ⟨v, by simpa using h1, h2⟩
theorem DpAll.zapp {K : PySem.W.Frag} {F : Hp} : ∀ {vs us : List V} {ds es : List PyData}, DpAll K F vs ds → DpAll K F us es → DpAll K F (vs ++ us) (ds ++ es)
  | _, _, _, _, .nil, b => b
  | _, _, _, _, .cons h a, b => .cons h (a.zapp b)
theorem DpAll.ztake {K : PySem.W.Frag} {F : Hp} : ∀ {vs : List V} {ds : List PyData} (n : Nat), DpAll K F vs ds → DpAll K F (vs.take n) (ds.take n)
  | _, _, 0, _ => .nil
  | _, _, _ + 1, .nil => .nil
  | _, _, n + 1, .cons h a => .cons h (a.ztake n)
theorem DpAll.zdrop {K : PySem.W.Frag} {F : Hp} : ∀ {vs : List V} {ds : List PyData} (n : Nat), DpAll K F vs ds → DpAll K F (vs.drop n) (ds.drop n)
  | _, _, 0, a => a
  | _, _, _ + 1, .nil => .nil
  | _, _, n + 1, .cons _ a => a.zdrop n
theorem DpAll.zset {K : PySem.W.Frag} {F : Hp} {v : V} {d : PyData} (h : Dp K F v d) : ∀ {vs : List V} {ds : List PyData} (n : Nat), DpAll K F vs ds → DpAll K F (vs.set n v) (ds.set n d)
  | _, _, _, .nil => .nil
  | _, _, 0, .cons _ a => .cons h a
  | _, _, n + 1, .cons g a => .cons g (DpAll.zset h n a)
theorem DpAll.zrev {K : PySem.W.Frag} {F : Hp} : ∀ {vs : List V} {ds : List PyData}, DpAll K F vs ds → DpAll K F vs.reverse ds.reverse
  | _, _, .nil => .nil
  | _, _, .cons h a => by rw [List.reverse_cons, List.reverse_cons]; exact (a.zrev).zapp (.cons h .nil)

end L2
namespace SM
open PySem PySem.Spec PyProof.Rows L2
/-- the frozen part -/
structure HF (H F : Hp) : Prop where
  sub : ∀ a o, F a = some o → H a = some o
  ntb : ∀ a ps, F a ≠ some (.tbl ps)
/-- from (H, F) to (H', F') in an expression -/
structure Ex2 (H F H' F' : Hp) : Prop where
  h : Ext H H'
  f : Le F F'
  n : ∀ a o, F' a = some o → F a = none → H a = none
theorem Ex2.refl (H F : Hp) : Ex2 H F H F := ⟨Ext.refl H, Le.refl F, fun a o h n => by rw [n] at h; cases h⟩
theorem Ex2.trans {H F H1 F1 H2 F2 : Hp} (a : Ex2 H F H1 F1) (b : Ex2 H1 F1 H2 F2) : Ex2 H F H2 F2 where
  h := a.h.trans b.h
  f := a.f.trans b.f
  n := fun c o h n => by
    cases q : F1 c with
    | none => exact a.h.back (b.n c o h q)
    | some u => exact a.n c u q n

/-! ### slots -/
inductive Sl where
  | un | sh (d : PyData) | ow (d : PyData)
abbrev Gm := List Sl
/-- the static part: the program's, the def's (N, sc, fn), the room k, the code tables; B, F0: the heaps at the def's entry -/
structure Stat where
  P : Program
  w : World
  K : PySem.W.Frag
  mg : Str → Option Value
  base : Heap
  N : List Str
  sc : Scope
  fn : Str → Bool
  k : Nat
  tabs : List Addr
  code : Value
  B : Hp
  F0 : Hp
structure IsCx (S : Stat) (X : Cx) : Prop where
  prog : X.prog = S.P
  w : X.w = S.w
  K : X.K = S.K
  mg : X.mg = S.mg
  base : X.base = S.base
  N : X.N = S.N
  sc : X.env.scope = S.sc
  fn : X.fn = S.fn
  room : Room S.k X.A
  calm : X.calm = true
  code : X.env.code = S.code
  xe : X.xe = fun _ _ => False
def TabOk (H : Hp) (P : Addr) : Prop := ∃ ps : Array Value, H P = some (.tbl ps) ∧ TriplesOk ps.toList
theorem TabOk.ext {H H' : Hp} {P : Addr} (e : Ext H H') (h : TabOk H P) : TabOk H' P := by
  obtain ⟨ps, h1, h2⟩ := h
  obtain ⟨ps', h3, h4⟩ := e.tab P ps h1
  exact ⟨ps', h3, h4 h2⟩
structure AtH (S : Stat) (H F : Hp) : Prop where
  ext : Ext S.B H
  hf : HF H F
  f0 : Le S.F0 F
  new : ∀ a o, F a = some o → S.F0 a = none → S.B a = none
  tabs : ∀ P ∈ S.tabs, TabOk H P
/-- an owned thing at a -/
def Own (S : Stat) (H F : Hp) (a : Addr) : PyData → Prop
  | .list ds => S.B a = none ∧ F a = none ∧ ∃ vs, H a = some (.lst vs) ∧ DpAll S.K F vs ds
  | _ => False
structure At (S : Stat) (γ : Gm) (σ : L2.St) (H F : Hp) : Prop extends AtH S H F where
  len : σ.length = γ.length
  sh : ∀ (i : Nat) (d : PyData), γ[i]? = some (.sh d) → ∃ v, σ[i]? = some (some v) ∧ Dp S.K F v d
  ow : ∀ (i : Nat) (d : PyData), γ[i]? = some (.ow d) → ∃ a, σ[i]? = some (some (.ref a)) ∧ Own S H F a d
  apart : ∀ (i j : Nat) (d e : PyData) (a : Addr), γ[i]? = some (.ow d) → γ[j]? = some (.ow e) → σ[i]? = some (some (.ref a)) → σ[j]? = some (some (.ref a)) → i = j
theorem Own.fnone {S : Stat} {H F : Hp} {a : Addr} {d : PyData} (h : Own S H F a d) : F a = none := by
  cases d <;> first | exact h.2.1 | exact h.elim
theorem Own.bnone {S : Stat} {H F : Hp} {a : Addr} {d : PyData} (h : Own S H F a d) : S.B a = none := by
  cases d <;> first | exact h.1 | exact h.elim
theorem Own.there {S : Stat} {H F : Hp} {a : Addr} {d : PyData} (h : Own S H F a d) : ∃ o, H a = some o ∧ ∀ ps, o ≠ .tbl ps := by
  cases d <;> first | (obtain ⟨_, _, vs, e, _⟩ := h; exact ⟨_, e, fun ps z => by cases z⟩) | exact h.elim
theorem Own.keep {S : Stat} {H F H' F' : Hp} {a : Addr} {d : PyData} (h : Own S H F a d) (e : ∀ o, H a = some o → H' a = some o) (f : Le F F') (n : F' a = none) : Own S H' F' a d := by
  cases d with
  | list ds => obtain ⟨h1, _, vs, h3, h4⟩ := h; exact ⟨h1, n, vs, e _ h3, h4.zmono f⟩
  | _ => exact h.elim
theorem AtH.ex {S : Stat} {H F H' F' : Hp} (h : AtH S H F) (x : Ex2 H F H' F') (hf : HF H' F') : AtH S H' F' where
  ext := h.ext.trans x.h
  hf := hf
  f0 := h.f0.trans x.f
  new := fun a o e n => by
    cases q : F a with
    | some u => exact h.new a u q n
    | none => exact h.ext.back (x.n a o e q)
  tabs := fun P hP => (h.tabs P hP).ext x.h
theorem At.ex {S : Stat} {γ : Gm} {σ : L2.St} {H F H' F' : Hp} (h : At S γ σ H F) (x : Ex2 H F H' F') (hf : HF H' F') : At S γ σ H' F' where
  toAtH := h.toAtH.ex x hf
  len := h.len
  sh := fun i d e => by
    obtain ⟨v, h1, h2⟩ := h.sh i d e
    exact ⟨v, h1, h2.zmono x.f⟩
  ow := fun i d e => by
    obtain ⟨a, h1, h2⟩ := h.ow i d e
    obtain ⟨o, ho, nt⟩ := h2.there
    refine ⟨a, h1, h2.keep (fun o' e' => ?_) x.f ?_⟩
    · rw [ho] at e'; cases e'; exact x.h.keep a o ho nt
    · cases q : F' a with
      | none => rfl
      | some u => have := x.n a u q h2.fnone; rw [ho] at this; cases this
  apart := h.apart
theorem HF.new {H F : Hp} {p : Addr} {o : HO} (h : HF H F) (hp : H p = none) (nt : ∀ ps, o ≠ .tbl ps) : HF (upd H p o) (upd F p o) where
  sub := fun a u e => by
    by_cases ha : a = p
    · subst ha; rw [upd_same] at e; cases e; exact upd_same
    · rw [upd_ne ha] at e; rw [upd_ne ha]; exact h.sub a u e
  ntb := fun a ps e => by
    by_cases ha : a = p
    · subst ha; rw [upd_same] at e; cases e; exact nt ps rfl
    · rw [upd_ne ha] at e; exact h.ntb a ps e
theorem HF.newH {H F : Hp} {p : Addr} {o : HO} (h : HF H F) (hp : H p = none) : HF (upd H p o) F where
  sub := fun a u e => by rw [upd_ne (ne_of_none (h.sub a u e) hp)]; exact h.sub a u e
  ntb := h.ntb
theorem HF.fnone {H F : Hp} {p : Addr} (h : HF H F) (hp : H p = none) : F p = none := by
  cases q : F p with
  | none => rfl
  | some o => rw [h.sub p o q] at hp; cases hp
/-- a new shared object -/
theorem ex_new {H F : Hp} {p : Addr} {o : HO} (h : HF H F) (hp : H p = none) : Ex2 H F (upd H p o) (upd F p o) where
  h := Ext.new hp
  f := Le.new (h.fnone hp)
  n := fun a u e n => by
    by_cases ha : a = p
    · subst ha; exact hp
    · rw [upd_ne ha, n] at e; cases e
/-- a new object that is not shared yet -/
theorem ex_newH {H F : Hp} {p : Addr} {o : HO} (hp : H p = none) : Ex2 H F (upd H p o) F where
  h := Ext.new hp
  f := Le.refl F
  n := fun a u e n => by rw [n] at e; cases e
/-- what stands in H is shared from now on -/
theorem HF.share {H F : Hp} {p : Addr} {o : HO} (h : HF H F) (hp : H p = some o) (nt : ∀ ps, o ≠ .tbl ps) : HF H (upd F p o) where
  sub := fun a u e => by
    by_cases ha : a = p
    · subst ha; rw [upd_same] at e; cases e; exact hp
    · rw [upd_ne ha] at e; exact h.sub a u e
  ntb := fun a ps e => by
    by_cases ha : a = p
    · subst ha; rw [upd_same] at e; cases e; exact nt ps rfl
    · rw [upd_ne ha] at e; exact h.ntb a ps e

/-! ### what is wanted of a piece of code, whatever its context -/
def wE (S : Stat) (e : Expr) : TE := fun σ H Q => ∀ X, IsCx S X → ∀ pins s, Inv X pins σ H s → wpAny (model X.prog X.w) X.A (eval e X.env) (EP X pins σ Q) X.xe s
def wT (S : Stat) (e : Expr) : TT := fun σ H Q => ∀ X, IsCx S X → ∀ pins s, Inv X pins σ H s → wpAny (model X.prog X.w) X.A (isTrue e X.env (eval e X.env)) (TP X pins σ Q) X.xe s
def wW (S : Stat) (e : Expr) : TT := fun σ H Q => ∀ X, IsCx S X → ∀ wh pins s, Inv X pins σ H s → wpAny (model X.prog X.w) X.A (isTrue e X.env wh) (TP X pins σ Q) X.xe s
def wA (S : Stat) (es : List Expr) : TA := fun σ H Q => ∀ X, IsCx S X → ∀ pos pins s, Inv X pins σ H s → wpAny (model X.prog X.w) X.A (spliced (backTo pos (starEach es X.env))) (AP X pins σ Q) X.xe s
def wS (S : Stat) (ss : List Stmt) : TS := fun D σ H => ∀ X, IsCx S X → ∀ pins s, Inv X pins σ H s → wpAny (model X.prog X.w) X.A (execs ss X.env) (SP X pins D) X.xe s
def wS1 (S : Stat) (st : Stmt) : TS := fun D σ H => ∀ X, IsCx S X → ∀ pins s, Inv X pins σ H s → wpAny (model X.prog X.w) X.A (exec st X.env) (SP X pins D) X.xe s
def wG (S : Stat) (tg : Expr) : TG := fun v σ H Q => ∀ X, IsCx S X → ∀ pins s u, Inv X pins σ H s → RelV v u → wpAny (model X.prog X.w) X.A (assign tg X.env u) (fun _ s' => ∃ σ' H', Inv X pins σ' H' s' ∧ Q σ' H') X.xe s
def wI (S : Stat) (tg iter : Expr) : TI := fun σ H R => ∀ X, IsCx S X → ∀ pins s, Inv X pins σ H s → wpAny (model X.prog X.w) X.A (eval iter X.env) (fun v s1 => wpAny (model X.prog X.w) X.A (pyIter v) (PIE X pins σ tg R) X.xe s1) X.xe s
section
variable {S : Stat} {X : Cx} {e tg iter : Expr} {es : List Expr} {ss : List Stmt} {st : Stmt} {σ : L2.St} {H : Hp}
theorem pe_w (hX : IsCx S X) : PE X e (wE S e) := ⟨fun pins s _ _ _ I h => h X hX pins s I⟩
theorem pt_w (hX : IsCx S X) : PT X e (wT S e) := ⟨fun pins s _ _ _ I h => h X hX pins s I⟩
theorem pw_w (hX : IsCx S X) : PW X e (wW S e) := ⟨fun wh pins s _ _ _ I h => h X hX wh pins s I⟩
theorem pa_w (hX : IsCx S X) : PA X es (wA S es) := ⟨fun pos pins s _ _ _ I h => h X hX pos pins s I⟩
theorem pss_w (hX : IsCx S X) : PSs X ss (wS S ss) := ⟨fun pins s _ _ _ I h => h X hX pins s I⟩
theorem ps_w (hX : IsCx S X) : PS X st (wS1 S st) := ⟨fun pins s _ _ _ I h => h X hX pins s I⟩
theorem pg_w (hX : IsCx S X) : PG X tg (wG S tg) := ⟨fun pins s _ _ _ _ _ I r h => h X hX pins s _ I r⟩
theorem pi_w (hX : IsCx S X) : PI X tg iter (wI S tg iter) := ⟨fun pins s _ _ _ I h => h X hX pins s I⟩
theorem wE_of {t : TE} {Q : VK} (h : ∀ X, IsCx S X → PE X e t) (q : t σ H Q) : wE S e σ H Q := fun X hX pins s I => (h X hX).run pins s σ H Q I q
theorem wT_of {t : TT} {Q : Bool → Hp → Prop} (h : ∀ X, IsCx S X → PT X e t) (q : t σ H Q) : wT S e σ H Q := fun X hX pins s I => (h X hX).run pins s σ H Q I q
theorem wW_of {t : TT} {Q : Bool → Hp → Prop} (h : ∀ X, IsCx S X → PW X e t) (q : t σ H Q) : wW S e σ H Q := fun X hX wh pins s I => (h X hX).run wh pins s σ H Q I q
theorem wA_of {t : TA} {Q : List V → Hp → Prop} (h : ∀ X, IsCx S X → PA X es t) (q : t σ H Q) : wA S es σ H Q := fun X hX pos pins s I => (h X hX).run pos pins s σ H Q I q
theorem wS_of {t : TS} {D : Ends} (h : ∀ X, IsCx S X → PSs X ss t) (q : t D σ H) : wS S ss D σ H := fun X hX pins s I => (h X hX).run pins s σ H D I q
theorem wS1_of {t : TS} {D : Ends} (h : ∀ X, IsCx S X → PS X st t) (q : t D σ H) : wS1 S st D σ H := fun X hX pins s I => (h X hX).run pins s σ H D I q
theorem wG_of {t : TG} {v : V} {Q : L2.St → Hp → Prop} (h : ∀ X, IsCx S X → PG X tg t) (q : t v σ H Q) : wG S tg v σ H Q := fun X hX pins s u I r => (h X hX).run pins s σ H v u Q I r q
theorem wI_of {t : TI} {R : It → Hp → Prop} (h : ∀ X, IsCx S X → PI X tg iter t) (q : t σ H R) : wI S tg iter σ H R := fun X hX pins s I => (h X hX).run pins s σ H R I q
theorem EP.mono {X : Cx} {pins : List (Addr × Obj)} {Q Q' : VK} {u : Value} {s : Shared} (h : EP X pins σ Q u s) (w : ∀ v H, Q v H → Q' v H) : EP X pins σ Q' u s := by
  obtain ⟨v, H', I, r, q⟩ := h
  exact ⟨v, H', I, r, w _ _ q⟩
theorem wE_mono {Q Q' : VK} (h : wE S e σ H Q) (w : ∀ v H, Q v H → Q' v H) : wE S e σ H Q' := fun X hX pins s I => thn (h X hX pins s I) fun _ _ q => EP.mono q w
theorem wT_mono {Q Q' : Bool → Hp → Prop} (h : wT S e σ H Q) (w : ∀ v H, Q v H → Q' v H) : wT S e σ H Q' := fun X hX pins s I => thn (h X hX pins s I) fun _ _ ⟨H', I', q⟩ => ⟨H', I', w _ _ q⟩
end

/-! ### judgements -/
/-- an expression's value, as P tells of value, heap ahead, heap behind, frozen part behind -/
def EW (S : Stat) (γ : Gm) (e : Expr) (P : V → Hp → Hp → Hp → Prop) : Prop :=
  ∀ σ H F, At S γ σ H F → ∀ Q : VK, (∀ v H' F', At S γ σ H' F' → Ex2 H F H' F' → P v H H' F' → Q v H') → wE S e σ H Q
/-- it evaluates to the data d, shared -/
def EJ (S : Stat) (γ : Gm) (e : Expr) (d : PyData) : Prop := EW S γ e fun v _ _ F' => Dp S.K F' v d
inductive SK where | l | t
def SqX (K : PySem.W.Frag) (H : Hp) (a : Addr) (xs : List V) : SK → Prop
  | .l => SqL K H a xs
  | .t => SqT K H a xs
/-- it evaluates to a list or tuple of ds, to be read -/
def QJ (S : Stat) (γ : Gm) (e : Expr) (k : SK) (ds : List PyData) : Prop := EW S γ e fun v _ H' F' => ∃ a vs, v = .ref a ∧ SqX S.K H' a vs k ∧ DpAll S.K F' vs ds
/-- it evaluates to a new list of ds -/
def FJ (S : Stat) (γ : Gm) (e : Expr) (ds : List PyData) : Prop := EW S γ e fun v H H' F' => ∃ a vs, v = .ref a ∧ H a = none ∧ F' a = none ∧ H' a = some (.lst vs) ∧ DpAll S.K F' vs ds
/-- a test -/
def TJ (S : Stat) (γ : Gm) (e : Expr) (b : Bool) : Prop :=
  ∀ σ H F, At S γ σ H F → ∀ Q : Bool → Hp → Prop, (∀ H' F', At S γ σ H' F' → Ex2 H F H' F' → Q b H') → wT S e σ H Q
def WJ (S : Stat) (γ : Gm) (e : Expr) (b : Bool) : Prop :=
  ∀ σ H F, At S γ σ H F → ∀ Q : Bool → Hp → Prop, (∀ H' F', At S γ σ H' F' → Ex2 H F H' F' → Q b H') → wW S e σ H Q
/-- arguments -/
def AJ (S : Stat) (γ : Gm) (es : List Expr) (ds : List PyData) : Prop :=
  ∀ σ H F, At S γ σ H F → ∀ Q : List V → Hp → Prop, (∀ vs H' F', At S γ σ H' F' → Ex2 H F H' F' → DpAll S.K F' vs ds → Q vs H') → wA S es σ H Q
section
variable {S : Stat} {γ : Gm} {e a b c : Expr} {d : PyData} {ds : List PyData} {pos : Pos}
theorem SqX.ext {K : PySem.W.Frag} {H H' : Hp} {a : Addr} {xs : List V} {k : SK} (e : Ext H H') (h : SqX K H a xs k) : SqX K H' a xs k := by
  cases k with
  | l =>
    rcases h with h | h
    · rcases h with h | ⟨o, h⟩
      · exact .inl (.inl (e.keep _ _ h fun _ z => by cases z))
      · exact .inl (.inr ⟨o, e.keep _ _ h fun _ z => by cases z⟩)
    · exact .inr h
  | t =>
    rcases h with h | h
    · rcases h with h | ⟨o, h⟩
      · exact .inl (.inl (e.keep _ _ h fun _ z => by cases z))
      · exact .inl (.inr ⟨o, e.keep _ _ h fun _ z => by cases z⟩)
    · exact .inr h
theorem SqX.le {K : PySem.W.Frag} {F F' : Hp} {a : Addr} {xs : List V} {k : SK} (e : Le F F') (h : SqX K F a xs k) : SqX K F' a xs k := by
  cases k with
  | l => exact e.sqL h
  | t => exact e.sqT h
theorem HF.le {H F : Hp} (h : HF H F) : Le F H := h.sub
theorem EW.imp {P P' : V → Hp → Hp → Hp → Prop} (h : EW S γ e P) (w : ∀ v H H' F', AtH S H' F' → P v H H' F' → P' v H H' F') : EW S γ e P' :=
  fun σ H F at_ Q q => h σ H F at_ Q fun v H' F' a x p => q v H' F' a x (w v H H' F' a.toAtH p)
/-- a new list, shared from now on -/
theorem FJ.ej (h : FJ S γ e ds) : EJ S γ e (.list ds) := fun σ H F at_ Q q => h σ H F at_ Q fun v H' F' a1 x ⟨a, vs, e1, h1, h2, h3, h4⟩ => by
  subst e1
  have hf : HF H' (upd F' a (.lst vs)) := a1.hf.share h3 fun _ z => by cases z
  have x2 : Ex2 H F H' (upd F' a (.lst vs)) := ⟨x.h, x.f.trans (Le.new h2), fun b o e n => by
    by_cases hb : b = a
    · subst hb; exact h1
    · rw [upd_ne hb] at e; exact x.n b o e n⟩
  exact q _ H' _ (at_.ex x2 hf) x2 (.lst (SqL.of upd_same) (h4.zmono (Le.new h2)))
theorem EJ.ql (h : EJ S γ e (.list ds)) : QJ S γ e .l ds := EW.imp h fun v H H' F' at_ p => by
  cases p with
  | lst h1 h2 => exact ⟨_, _, rfl, at_.hf.le.sqL h1, h2⟩
theorem EJ.qt (h : EJ S γ e (.tuple ds)) : QJ S γ e .t ds := EW.imp h fun v H H' F' at_ p => by
  cases p with
  | tup h1 h2 => exact ⟨_, _, rfl, at_.hf.le.sqT h1, h2⟩
theorem FJ.q (h : FJ S γ e ds) : QJ S γ e .l ds := EW.imp h fun v H H' F' at_ ⟨a, vs, e1, h1, h2, h3, h4⟩ => ⟨a, vs, e1, SqL.of h3, h4⟩

/-! names, constants -/
theorem e_var {i : Nat} {x : Str} (hN : S.N[i]? = some x) (hv : Vis S.sc x) (hg : γ[i]? = some (.sh d)) (hd : (x == ("__debug__" : Str)) = false := by decide) (hcd : (x == ("__classdict__" : Str)) = false := by decide) : EJ S γ (.Name x pos) d := fun σ H F at_ Q q => by
  obtain ⟨v, h1, h2⟩ := at_.sh i d hg
  exact wE_of (fun X hX => pe_var (by rw [hX.N]; exact hN) (by rw [hX.sc]; exact hv) hd hcd) ⟨v, h1, q v H F at_ (Ex2.refl H F) h2⟩
theorem q_own {i : Nat} {x : Str} (hN : S.N[i]? = some x) (hv : Vis S.sc x) (hg : γ[i]? = some (.ow (.list ds))) (hd : (x == ("__debug__" : Str)) = false := by decide) (hcd : (x == ("__classdict__" : Str)) = false := by decide) : QJ S γ (.Name x pos) .l ds := fun σ H F at_ Q q => by
  obtain ⟨a, h1, _, _, vs, h2, h3⟩ := at_.ow i _ hg
  exact wE_of (fun X hX => pe_var (by rw [hX.N]; exact hN) (by rw [hX.sc]; exact hv) hd hcd) ⟨.ref a, h1, q _ H F at_ (Ex2.refl H F) ⟨a, vs, rfl, SqL.of h2, h3⟩⟩
theorem e_c {v : V} (h : ∀ X, PE X e (tC v)) (hd : ∀ F, Dp S.K F v d) : EJ S γ e d := fun σ H F at_ Q q => wE_of (fun X _ => h X) (q v H F at_ (Ex2.refl H F) (hd F))
theorem e_int {i : Int} {j} : EJ S γ (.Constant (.int i) j pos) (.int i) := e_c (fun _ => pe_int) fun _ => .int i
theorem e_bl {i : Bool} {j} : EJ S γ (.Constant (.bool i) j pos) (.bool i) := e_c (fun _ => pe_bl) fun _ => .bl i
theorem e_non {j} : EJ S γ (.Constant .none j pos) .none := e_c (fun _ => pe_non) fun _ => .non
theorem e_str {x : Str} {j} : EJ S γ (.Constant (.str x) j pos) (.str x) := e_c (fun _ => pe_str) fun _ => .str x

/-! two operands -/
theorem e_bin {op : Operator} {r : R2} {da db dc : PyData} (ho : ∀ X, IsCx S X → OpR X (binaryOp op) r) (ha : EJ S γ a da) (hb : EJ S γ b db)
    (hr : ∀ v u H F Q, AtH S H F → Dp S.K F v da → Dp S.K F u db → (∀ w H' F', HF H' F' → Ex2 H F H' F' → Dp S.K F' w dc → Q w H') → r v u H Q) : EJ S γ (.BinOp a op b pos) dc := fun σ H F at_ Q q =>
  wE_of (fun X hX => pe_op (ho X hX) (pe_w hX) (pe_w hX)) (ha σ H F at_ _ fun v H1 F1 a1 x1 d1 => hb σ H1 F1 a1 _ fun u H2 F2 a2 x2 d2 =>
    hr v u H2 F2 Q a2.toAtH (d1.zmono x2.f) d2 fun w H3 F3 hf x3 d3 => q w H3 F3 (a2.ex x3 hf) ((x1.trans x2).trans x3) d3)
theorem e_binI {op : Operator} {C : Int → Int → Prop} {g : Int → Int → Int} {x y : Int} (ho : ∀ X, IsCx S X → OpR X (binaryOp op) (rI C fun i j => .int (g i j))) (ha : EJ S γ a (.int x)) (hb : EJ S γ b (.int y)) (hc : C x y) : EJ S γ (.BinOp a op b pos) (.int (g x y)) :=
  e_bin ho ha hb fun v u H F Q at_ d1 d2 q => by cases d1; cases d2; exact ⟨_, _, rfl, rfl, hc, q _ H F at_.hf (Ex2.refl H F) (.int _)⟩
theorem e_binI0 {op : Operator} {g : Int → Int → Int} {x y : Int} (ho : ∀ X, IsCx S X → OpR X (binaryOp op) (rI0 fun i j => .int (g i j))) (ha : EJ S γ a (.int x)) (hb : EJ S γ b (.int y)) : EJ S γ (.BinOp a op b pos) (.int (g x y)) :=
  e_bin ho ha hb fun v u H F Q at_ d1 d2 q => by cases d1; cases d2; exact ⟨_, _, rfl, rfl, q _ H F at_.hf (Ex2.refl H F) (.int _)⟩
theorem e_add {x y : Int} (ha : EJ S γ a (.int x)) (hb : EJ S γ b (.int y)) : EJ S γ (.BinOp a .Add b pos) (.int (x + y)) := e_binI0 (fun _ _ => op_add) ha hb
theorem e_sub {x y : Int} (ha : EJ S γ a (.int x)) (hb : EJ S γ b (.int y)) : EJ S γ (.BinOp a .Sub b pos) (.int (x - y)) := e_binI0 (fun _ _ => op_sub) ha hb
theorem e_mul {x y : Int} (ha : EJ S γ a (.int x)) (hb : EJ S γ b (.int y)) (hc : CMul x y) : EJ S γ (.BinOp a .Mult b pos) (.int (x * y)) := e_binI (fun _ _ => op_mul) ha hb hc
theorem e_fdiv {x y : Int} (ha : EJ S γ a (.int x)) (hb : EJ S γ b (.int y)) (hc : CDiv x y) : EJ S γ (.BinOp a .FloorDiv b pos) (.int (x / y)) := e_binI (fun _ _ => op_fdiv) ha hb hc
theorem e_mod {x y : Int} (ha : EJ S γ a (.int x)) (hb : EJ S γ b (.int y)) (hc : 0 < y) : EJ S γ (.BinOp a .Mod b pos) (.int (x % y)) := e_binI (fun _ _ => op_mod) ha hb hc
theorem e_pow {x y : Int} (ha : EJ S γ a (.int x)) (hb : EJ S γ b (.int y)) (hc : CPow x y) : EJ S γ (.BinOp a .Pow b pos) (.int (x ^ y.toNat)) := e_binI (fun _ _ => op_pow) ha hb hc
theorem e_neg {x : Int} (ha : EJ S γ a (.int x)) : EJ S γ (.UnaryOp .USub a pos) (.int (-x)) := fun σ H F at_ Q q =>
  wE_of (fun X hX => pe_un un_neg (pe_w hX)) (ha σ H F at_ _ fun v H1 F1 a1 x1 d1 => by cases d1; exact ⟨_, rfl, q _ H1 F1 a1 x1 (.int _)⟩)
end
end SM

set_option autoImplicit false
set_option Elab.async false
set_option linter.all false
set_option maxRecDepth 100000
set_option maxHeartbeats 4000000
namespace SM
open PySem PySem.Spec PyProof.Rows L2
section
variable {S : Stat} {γ : Gm} {e a b c : Expr} {d : PyData} {ds : List PyData} {pos : Pos}

/-! ### comparisons -/
/-- a comparison's answer -/
def CJ (S : Stat) (γ : Gm) (op : CmpOp) (a b : Expr) (k : Bool) : Prop :=
  ∃ r : R2, (∀ X, IsCx S X → OpR X (compareOp op) r) ∧ ∀ σ H F, At S γ σ H F → ∀ Q : VK, (∀ H' F', At S γ σ H' F' → Ex2 H F H' F' → Q (.bl k) H') → tOp r (wE S a) (wE S b) σ H Q
theorem e_cmp {op : CmpOp} {k : Bool} (h : CJ S γ op a b k) (hm : behindInMarks op b = false) : EJ S γ (.Compare a [op] [b] pos) (.bool k) := fun σ H F at_ Q q => by
  obtain ⟨r, ho, h⟩ := h
  exact wE_of (fun X hX => pe_cmpR (ho X hX) (pe_w hX) (pe_w hX) hm) (h σ H F at_ Q fun H' F' a1 x => q _ H' F' a1 x (.bl _))
theorem t_cmp {op : CmpOp} {k : Bool} (h : CJ S γ op a b k) (hm : behindInMarks op b = false) : TJ S γ (.Compare a [op] [b] pos) k := fun σ H F at_ Q q => by
  obtain ⟨r, ho, h⟩ := h
  exact wT_of (fun X hX => pt_cmpR (ho X hX) (pe_w hX) (pe_w hX) hm) (h σ H F at_ _ fun H' F' a1 x => ⟨k, rfl, q H' F' a1 x⟩)
theorem c_val {op : CmpOp} {r : R2} {da db : PyData} {k : Bool} (ho : ∀ X, IsCx S X → OpR X (compareOp op) r) (ha : EJ S γ a da) (hb : EJ S γ b db)
    (hr : ∀ v u H F Q, AtH S H F → Dp S.K F v da → Dp S.K F u db → Q (.bl k) H → r v u H Q) : CJ S γ op a b k :=
  ⟨r, ho, fun σ H F at_ Q q => ha σ H F at_ _ fun v H1 F1 a1 x1 d1 => hb σ H1 F1 a1 _ fun u H2 F2 a2 x2 d2 => hr v u H2 F2 Q a2.toAtH (d1.zmono x2.f) d2 (q H2 F2 a2 (x1.trans x2))⟩
theorem c_int {op : CmpOp} {g : Int → Int → Bool} {x y : Int} (ho : ∀ X, IsCx S X → OpR X (compareOp op) (rI0 fun i j => .bl (g i j))) (ha : EJ S γ a (.int x)) (hb : EJ S γ b (.int y)) : CJ S γ op a b (g x y) :=
  c_val ho ha hb fun v u H F Q at_ d1 d2 q => by cases d1; cases d2; exact ⟨_, _, rfl, rfl, q⟩
theorem c_lt {x y : Int} (ha : EJ S γ a (.int x)) (hb : EJ S γ b (.int y)) : CJ S γ .Lt a b (decide (x < y)) := c_int (fun _ _ => op_lt) ha hb
theorem c_le {x y : Int} (ha : EJ S γ a (.int x)) (hb : EJ S γ b (.int y)) : CJ S γ .LtE a b (decide (x ≤ y)) := c_int (fun _ _ => op_le) ha hb
theorem c_gt {x y : Int} (ha : EJ S γ a (.int x)) (hb : EJ S γ b (.int y)) : CJ S γ .Gt a b (decide (y < x)) := c_int (fun _ _ => op_gt) ha hb
theorem c_ge {x y : Int} (ha : EJ S γ a (.int x)) (hb : EJ S γ b (.int y)) : CJ S γ .GtE a b (decide (y ≤ x)) := c_int (fun _ _ => op_ge) ha hb
/-- scalars as values -/
def sc1 : PyData → Option V
  | .none => some .non
  | .bool b => some (.bl b)
  | .int i => some (.int i)
  | .str s => some (.str s)
  | _ => none
theorem sc1_of {F : Hp} {K : PySem.W.Frag} {v x : V} {d : PyData} (h : Dp K F v d) (e : sc1 d = some x) : v = x := by
  cases h <;> first | exact Option.some.inj e | cases e
theorem c_eqS {da db : PyData} {x y : V} (ha : EJ S γ a da) (hb : EJ S γ b db) (hx : sc1 da = some x) (hy : sc1 db = some y) (hs : scal x y = true) : CJ S γ .Eq a b (decide (x = y)) :=
  c_val (fun _ _ => op_eq) ha hb fun v u H F Q at_ d1 d2 q => by rw [sc1_of d1 hx, sc1_of d2 hy]; exact ⟨hs, q⟩
theorem c_neS {da db : PyData} {x y : V} (ha : EJ S γ a da) (hb : EJ S γ b db) (hx : sc1 da = some x) (hy : sc1 db = some y) (hs : scal x y = true) : CJ S γ .NotEq a b (!decide (x = y)) :=
  c_val (fun _ _ => op_ne) ha hb fun v u H F Q at_ d1 d2 q => by rw [sc1_of d1 hx, sc1_of d2 hy]; exact ⟨hs, q⟩
theorem dec_iV {x y : Int} : decide (V.int x = V.int y) = decide (x = y) := by rw [dec_int]; exact Bool.beq_eq_decide_eq x y
theorem dec_bV {x y : Bool} : decide (V.bl x = V.bl y) = decide (x = y) := by rw [dec_bl]; exact Bool.beq_eq_decide_eq x y
theorem dec_sV {x y : Str} : decide (V.str x = V.str y) = decide (x = y) := by rw [Bool.eq_iff_iff]; simp
theorem c_eqI {x y : Int} (ha : EJ S γ a (.int x)) (hb : EJ S γ b (.int y)) : CJ S γ .Eq a b (decide (x = y)) := dec_iV ▸ c_eqS ha hb rfl rfl rfl
theorem c_neI {x y : Int} (ha : EJ S γ a (.int x)) (hb : EJ S γ b (.int y)) : CJ S γ .NotEq a b (!decide (x = y)) := by have := c_neS ha hb rfl rfl rfl; rw [dec_iV] at this; exact this
theorem c_eqB {x y : Bool} (ha : EJ S γ a (.bool x)) (hb : EJ S γ b (.bool y)) : CJ S γ .Eq a b (decide (x = y)) := dec_bV ▸ c_eqS ha hb rfl rfl rfl
theorem c_neB {x y : Bool} (ha : EJ S γ a (.bool x)) (hb : EJ S γ b (.bool y)) : CJ S γ .NotEq a b (!decide (x = y)) := by have := c_neS ha hb rfl rfl rfl; rw [dec_bV] at this; exact this
theorem c_eqStr {x y : Str} (ha : EJ S γ a (.str x)) (hb : EJ S γ b (.str y)) : CJ S γ .Eq a b (decide (x = y)) := dec_sV ▸ c_eqS ha hb rfl rfl rfl
def isN : PyData → Bool
  | .none => true
  | _ => false
theorem isN_of {F : Hp} {K : PySem.W.Frag} {v : V} {d : PyData} (h : Dp K F v d) : decide (v = .non) = isN d := by
  cases h <;> simp [isN]
theorem c_isN {p2 : Pos} {j : Nat} (ha : EJ S γ a d) : CJ S γ .Is a (.Constant .none j p2) (isN d) :=
  c_val (fun _ _ => op_isN) ha e_non fun v u H F Q at_ d1 d2 q => by cases d2; refine ⟨rfl, ?_⟩; rw [isN_of d1]; exact q
theorem c_notN {p2 : Pos} {j : Nat} (ha : EJ S γ a d) : CJ S γ .IsNot a (.Constant .none j p2) (!isN d) :=
  c_val (fun _ _ => op_notN) ha e_non fun v u H F Q at_ d1 d2 q => by cases d2; refine ⟨rfl, ?_⟩; rw [isN_of d1]; exact q
/-- data of any depth -/
theorem c_eqD {da db : PyData} (ha : EJ S γ a da) (hb : EJ S γ b db) (h1 : SeqAt.shaped da = true) (h2 : SeqAt.shaped db = true) : CJ S γ .Eq a b (PyData.eqv da db) :=
  c_val (r := rEqD S.K) (fun X hX => hX.K ▸ op_eqD hX.room.units) ha hb fun v u H F Q at_ d1 d2 q => ⟨_, _, d1.zmono at_.hf.le, d2.zmono at_.hf.le, h1, h2, q⟩
theorem c_neD {da db : PyData} (ha : EJ S γ a da) (hb : EJ S γ b db) (h1 : SeqAt.shaped da = true) (h2 : SeqAt.shaped db = true) : CJ S γ .NotEq a b (!PyData.eqv da db) :=
  c_val (r := rNeD S.K) (fun X hX => hX.K ▸ op_neD hX.room.units) ha hb fun v u H F Q at_ d1 d2 q => ⟨_, _, d1.zmono at_.hf.le, d2.zmono at_.hf.le, h1, h2, q⟩
/-- x < y < z, of ints -/
theorem e_chain {op op' : CmpOp} {g g' : Int → Int → Bool} {x y z : Int} (ho : ∀ X : Cx, OpR X (compareOp op) (rI0 fun i j => .bl (g i j))) (ho' : ∀ X : Cx, OpR X (compareOp op') (rI0 fun i j => .bl (g' i j)))
    (ha : EJ S γ a (.int x)) (hb : EJ S γ b (.int y)) (hc : g x y = true → EJ S γ c (.int z)) (hm : lastMarks [op, op'] [b, c] = false) : EJ S γ (.Compare a [op, op'] [b, c] pos) (.bool (g x y && g' y z)) := fun σ H F at_ Q q =>
  wE_of (fun X hX => pe_chain (ho X) (ho' X) (pe_w hX) (pe_w hX) (pe_w hX) hm) (ha σ H F at_ _ fun v H1 F1 a1 x1 d1 => hb σ H1 F1 a1 _ fun u H2 F2 a2 x2 d2 => by
    cases d1; cases d2
    refine ⟨x, y, rfl, rfl, g x y, rfl, ?_⟩
    cases hg : g x y with
    | true =>
      rw [if_pos rfl]
      refine hc hg σ H2 F2 a2 _ fun w H3 F3 a3 x3 d3 => ?_
      cases d3
      rw [hg] at q
      exact ⟨y, z, rfl, rfl, q _ H3 F3 a3 ((x1.trans x2).trans x3) (.bl _)⟩
    | false =>
      rw [if_neg Bool.false_ne_true]
      rw [hg] at q
      exact q _ H2 F2 a2 (x1.trans x2) (.bl _))

theorem t_chain {op op' : CmpOp} {g g' : Int → Int → Bool} {x y z : Int} (ho : ∀ X : Cx, OpR X (compareOp op) (rI0 fun i j => .bl (g i j))) (ho' : ∀ X : Cx, OpR X (compareOp op') (rI0 fun i j => .bl (g' i j)))
    (ha : EJ S γ a (.int x)) (hb : EJ S γ b (.int y)) (hc : g x y = true → EJ S γ c (.int z)) (hm : lastMarks [op, op'] [b, c] = false) : TJ S γ (.Compare a [op, op'] [b, c] pos) (g x y && g' y z) := fun σ H F at_ Q q =>
  wT_of (fun X hX => pt_chain (ho X) (ho' X) (pe_w hX) (pe_w hX) (pe_w hX) hm) (ha σ H F at_ _ fun v H1 F1 a1 x1 d1 => hb σ H1 F1 a1 _ fun u H2 F2 a2 x2 d2 => by
    cases d1; cases d2
    refine ⟨x, y, rfl, rfl, g x y, rfl, ?_⟩
    cases hg : g x y with
    | true =>
      rw [if_pos rfl]
      refine hc hg σ H2 F2 a2 _ fun w H3 F3 a3 x3 d3 => ?_
      cases d3
      rw [hg] at q
      exact ⟨y, z, rfl, rfl, _, rfl, q H3 F3 a3 ((x1.trans x2).trans x3)⟩
    | false =>
      rw [if_neg Bool.false_ne_true]
      rw [hg] at q
      exact ⟨_, rfl, q H2 F2 a2 (x1.trans x2)⟩)

/-! ### tests -/
theorem t_val {k : Bool} (h : EJ S γ e (.bool k)) (he : ∀ (X : Cx) whole, isTrue e X.env whole = (do let v ← whole; standAt e.pos; holding [v] (truthy v))) : TJ S γ e k := fun σ H F at_ Q q =>
  wT_of (fun X hX => pt_val (pe_w hX) (he X)) (h σ H F at_ _ fun v H1 F1 a1 x1 d1 => by cases d1; exact ⟨k, rfl, q H1 F1 a1 x1⟩)
/-- a list's or tuple's truth -/
theorem t_seq {k : SK} (h : QJ S γ e k ds) (he : ∀ (X : Cx) whole, isTrue e X.env whole = (do let v ← whole; standAt e.pos; holding [v] (truthy v))) : TJ S γ e (!ds.isEmpty) := fun σ H F at_ Q q =>
  wT_of (t := fun σ H Q => wE S e σ H fun x H' => ∃ k, TruV S.K x H' k ∧ Q k H') (fun X hX => hX.K ▸ pt_truth (pe_w hX) (he X)) (h σ H F at_ _ fun v H1 F1 a1 x1 ⟨p, vs, e1, h1, h2⟩ => by
    subst e1
    have e2 : (!vs.isEmpty) = !ds.isEmpty := by
      cases h2 <;> rfl
    refine ⟨!ds.isEmpty, ?_, q H1 F1 a1 x1⟩
    cases k with
    | l => exact .inl ⟨vs, h1, e2.symm⟩
    | t => exact .inr (.inl ⟨vs, h1, e2.symm⟩))
theorem t_not {k : Bool} (h : TJ S γ a k) : TJ S γ (.UnaryOp .Not a pos) (!k) := fun σ H F at_ Q q =>
  wT_of (fun X hX => pt_not (pt_w hX)) (h σ H F at_ _ fun H1 F1 a1 x1 => q H1 F1 a1 x1)
theorem t_w {k : Bool} (h : WJ S γ a k) : TJ S γ a k := fun σ H F at_ Q q => wT_of (fun X hX => (pw_w hX).pt) (h σ H F at_ _ q)
variable {rest : List Expr}
theorem w_and1 {k : Bool} (h : TJ S γ a k) : WJ S γ (.BoolOp .And [a] pos) k := fun σ H F at_ Q q => wW_of (fun X hX => pw_and1 (pt_w hX)) (h σ H F at_ _ q)
theorem w_or1 {k : Bool} (h : TJ S γ a k) : WJ S γ (.BoolOp .Or [a] pos) k := fun σ H F at_ Q q => wW_of (fun X hX => pw_or1 (pt_w hX)) (h σ H F at_ _ q)
theorem w_and {k l : Bool} (h : TJ S γ a k) (h2 : k = true → WJ S γ (.BoolOp .And (b :: rest) pos) l) : WJ S γ (.BoolOp .And (a :: b :: rest) pos) (k && l) := fun σ H F at_ Q q =>
  wW_of (fun X hX => pw_and (pt_w hX) (pw_w hX)) (h σ H F at_ _ fun H1 F1 a1 x1 => by
    cases k with
    | true => exact iteT (h2 rfl σ H1 F1 a1 _ fun H2 F2 a2 x2 => q H2 F2 a2 (x1.trans x2))
    | false => exact iteF (q H1 F1 a1 x1))
theorem w_or {k l : Bool} (h : TJ S γ a k) (h2 : k = false → WJ S γ (.BoolOp .Or (b :: rest) pos) l) : WJ S γ (.BoolOp .Or (a :: b :: rest) pos) (k || l) := fun σ H F at_ Q q =>
  wW_of (fun X hX => pw_or (pt_w hX) (pw_w hX)) (h σ H F at_ _ fun H1 F1 a1 x1 => by
    cases k with
    | true => exact iteT (q H1 F1 a1 x1)
    | false => exact iteF (h2 rfl σ H1 F1 a1 _ fun H2 F2 a2 x2 => q H2 F2 a2 (x1.trans x2)))
theorem e_one {op : BoolOp} (h : EJ S γ a d) : EJ S γ (.BoolOp op [a] pos) d := fun σ H F at_ Q q => wE_of (fun X hX => pe_one (pe_w hX)) (h σ H F at_ _ q)
theorem e_and {k l : Bool} (h : EJ S γ a (.bool k)) (h2 : k = true → EJ S γ (.BoolOp .And (b :: rest) pos) (.bool l)) : EJ S γ (.BoolOp .And (a :: b :: rest) pos) (.bool (k && l)) := fun σ H F at_ Q q =>
  wE_of (fun X hX => pe_and (pe_w hX) (pe_w hX)) (h σ H F at_ _ fun v H1 F1 a1 x1 d1 => by
    cases d1
    refine ⟨k, rfl, ?_⟩
    cases k with
    | true => exact iteT (h2 rfl σ H1 F1 a1 _ fun u H2 F2 a2 x2 d2 => q u H2 F2 a2 (x1.trans x2) d2)
    | false => exact iteF (q _ H1 F1 a1 x1 (.bl _)))
theorem e_or {k l : Bool} (h : EJ S γ a (.bool k)) (h2 : k = false → EJ S γ (.BoolOp .Or (b :: rest) pos) (.bool l)) : EJ S γ (.BoolOp .Or (a :: b :: rest) pos) (.bool (k || l)) := fun σ H F at_ Q q =>
  wE_of (fun X hX => pe_or (pe_w hX) (pe_w hX)) (h σ H F at_ _ fun v H1 F1 a1 x1 d1 => by
    cases d1
    refine ⟨k, rfl, ?_⟩
    cases k with
    | true => exact iteT (q _ H1 F1 a1 x1 (.bl _))
    | false => exact iteF (h2 rfl σ H1 F1 a1 _ fun u H2 F2 a2 x2 d2 => q u H2 F2 a2 (x1.trans x2) d2))
theorem e_not {k : Bool} (h : EJ S γ a (.bool k)) : EJ S γ (.UnaryOp .Not a pos) (.bool (!k)) := fun σ H F at_ Q q =>
  wE_of (fun X hX => pe_not (pe_w hX)) (h σ H F at_ _ fun v H1 F1 a1 x1 d1 => by cases d1; exact ⟨k, rfl, q _ H1 F1 a1 x1 (.bl _)⟩)
/-- a if c else b -/
theorem e_if {α : Type} {enc : α → PyData} {k : Bool} {x y : α} (hc : TJ S γ c k) (ha : k = true → EJ S γ a (enc x)) (hb : k = false → EJ S γ b (enc y)) : EJ S γ (.IfExp c a b pos) (enc (if k = true then x else y)) := fun σ H F at_ Q q =>
  wE_of (fun X hX => pe_ifExp (pt_w hX) (pe_w hX) (pe_w hX)) (hc σ H F at_ _ fun H1 F1 a1 x1 => by
    cases k with
    | true => exact iteT (ha rfl σ H1 F1 a1 _ fun u H2 F2 a2 x2 d2 => q u H2 F2 a2 (x1.trans x2) d2)
    | false => exact iteF (hb rfl σ H1 F1 a1 _ fun u H2 F2 a2 x2 d2 => q u H2 F2 a2 (x1.trans x2) d2))

/-! ### argument lists, displays -/
variable {es : List Expr}
def PlainE (e : Expr) : Prop := ∀ (es : List Expr) (env : PySem.Env), starEach (e :: es) env = (false, eval e env) :: starEach es env
theorem a_nil : AJ S γ [] [] := fun σ H F at_ Q q => wA_of (fun X hX => pa_nil) (q [] H F at_ (Ex2.refl H F) .nil)
theorem a_cons (ha : EJ S γ e d) (hr : AJ S γ es ds) (hs : PlainE e) : AJ S γ (e :: es) (d :: ds) := fun σ H F at_ Q q =>
  wA_of (fun X hX => pa_cons (pe_w hX) (pa_w hX) (hs es X.env)) (ha σ H F at_ _ fun v H1 F1 a1 x1 d1 => hr σ H1 F1 a1 _ fun vs H2 F2 a2 x2 d2 => q _ H2 F2 a2 (x1.trans x2) (.cons (d1.zmono x2.f) d2))
theorem e_tup {k : Nat} (h : AJ S γ es ds) (hl : ds.length ≤ sizeLine) : EJ S γ (.Tuple es k pos) (.tuple ds) := fun σ H F at_ Q q =>
  wE_of (fun X hX => pe_tup (pa_w hX)) (h σ H F at_ _ fun vs H1 F1 a1 x1 d1 => ⟨by rw [d1.zlen]; exact hl, fun p hp => by
    have x2 : Ex2 H1 F1 (upd H1 p (.tup vs)) (upd F1 p (.tup vs)) := ex_new a1.hf hp
    exact q _ _ _ (a1.ex x2 (a1.hf.new hp fun _ z => by cases z)) (x1.trans x2) (.tup (SqT.of upd_same) (d1.zmono x2.f))⟩)
theorem f_lst (h : AJ S γ es ds) (hl : ds.length ≤ sizeLine) : FJ S γ (.List es pos) ds := fun σ H F at_ Q q =>
  wE_of (fun X hX => pe_lst (pa_w hX)) (h σ H F at_ _ fun vs H1 F1 a1 x1 d1 => ⟨by rw [d1.zlen]; exact hl, fun p hp => by
    have x2 : Ex2 H1 F1 (upd H1 p (.lst vs)) F1 := ex_newH hp
    exact q _ _ _ (a1.ex x2 (a1.hf.newH hp)) (x1.trans x2) ⟨p, vs, rfl, x1.h.back hp, a1.hf.fnone hp, upd_same, d1⟩⟩)

/-! ### items, slices -/
theorem atI_map {α β : Type} (f : α → β) (xs : List α) (i : Int) : atI (xs.map f) i = (atI xs i).map f := by
  unfold atI
  rw [List.length_map]
  cases ixN xs.length i with
  | none => rfl
  | some j => simp
theorem DpAll_at {K : PySem.W.Frag} {F : Hp} {vs : List V} {i : Int} (h : DpAll K F vs ds) (e : atI ds i = some d) : ∃ v, atI vs i = some v ∧ Dp K F v d := by
  unfold atI at e ⊢
  rw [h.zlen]
  cases hj : ixN ds.length i with
  | none => rw [hj] at e; cases e
  | some j => rw [hj] at e; exact h.zget e
theorem e_ix {k : SK} {i : Int} (ha : QJ S γ a k ds) (hb : EJ S γ b (.int i)) (he : atI ds i = some d) (hs : PlainIx b) : EJ S γ (.Subscript a b pos) d := by
  cases k with
  | l => exact fun σ H F at_ Q q => wE_of (t := tOp (rIxL S.K) (wE S a) (wE S b)) (fun X hX => hX.K ▸ pe_ix ix_list (pe_w hX) (pe_w hX) hs) (ha σ H F at_ _ fun v H1 F1 a1 x1 ⟨p, vs, e1, h1, h2⟩ => hb σ H1 F1 a1 _ fun u H2 F2 a2 x2 d2 => by
      subst e1
      cases d2
      obtain ⟨w, hw, dw⟩ := DpAll_at h2 he
      exact ⟨p, vs, i, w, rfl, rfl, SqX.ext (k := .l) x2.h h1, hw, q w H2 F2 a2 (x1.trans x2) (dw.zmono x2.f)⟩)
  | t => exact fun σ H F at_ Q q => wE_of (t := tOp (rIxT S.K) (wE S a) (wE S b)) (fun X hX => hX.K ▸ pe_ix ix_tup (pe_w hX) (pe_w hX) hs) (ha σ H F at_ _ fun v H1 F1 a1 x1 ⟨p, vs, e1, h1, h2⟩ => hb σ H1 F1 a1 _ fun u H2 F2 a2 x2 d2 => by
      subst e1
      cases d2
      obtain ⟨w, hw, dw⟩ := DpAll_at h2 he
      exact ⟨p, vs, i, w, rfl, rfl, SqX.ext (k := .t) x2.h h1, hw, q w H2 F2 a2 (x1.trans x2) (dw.zmono x2.f)⟩)
theorem e_ixT {α : Type} {enc : α → PyData} {xs : List α} {x : α} {k : SK} {i : Int} (ha : QJ S γ a k (xs.map enc)) (hb : EJ S γ b (.int i)) (he : atI xs i = some x) (hs : PlainIx b) : EJ S γ (.Subscript a b pos) (enc x) :=
  e_ix ha hb (by rw [atI_map, he]; rfl) hs
/-- a written place of a fixed tuple -/
theorem e_ixC {i : Nat} {p2 : Pos} {j : Nat} (ha : EJ S γ a (.tuple ds)) (he : ds[i]? = some d) : EJ S γ (.Subscript a (.Constant (.int (i : Int)) j p2) pos) d :=
  e_ix ha.qt e_int (atI_nat he) (fun _ _ => rfl)
/-- a slice's parts -/
def wO (S : Stat) (e : Option Expr) : TO := fun σ H Q => ∀ X, IsCx S X → ∀ pins s, Inv X pins σ H s → wpAny (model X.prog X.w) X.A (evalPart e X.env) (fun u s' => ∃ o H', Inv X pins σ H' s' ∧ IsPart u o ∧ Q o H') X.xe s
def OJ (S : Stat) (γ : Gm) (e : Option Expr) (o : Option Int) : Prop := ∀ σ H F, At S γ σ H F → ∀ Q : Option Int → Hp → Prop, (∀ H' F', At S γ σ H' F' → Ex2 H F H' F' → Q o H') → wO S e σ H Q
theorem po_w {X : Cx} {e : Option Expr} (hX : IsCx S X) : PO X e (wO S e) := ⟨fun pins s _ _ _ I h => h X hX pins s I⟩
theorem wO_of {e : Option Expr} {t : TO} {σ : L2.St} {H : Hp} {Q : Option Int → Hp → Prop} (h : ∀ X, IsCx S X → PO X e t) (q : t σ H Q) : wO S e σ H Q := fun X hX pins s I => (h X hX).run pins s σ H Q I q
theorem o_none : OJ S γ none none := fun σ H F at_ Q q => wO_of (fun X hX => po_none) (q H F at_ (Ex2.refl H F))
theorem o_some {i : Int} (h : EJ S γ e (.int i)) : OJ S γ (some e) (some i) := fun σ H F at_ Q q => wO_of (fun X hX => po_some (pe_w hX)) (h σ H F at_ _ fun v H1 F1 a1 x1 d1 => by cases d1; exact ⟨i, rfl, q H1 F1 a1 x1⟩)
/-- xs[lo:hi] -/
def cut {α : Type} (xs : List α) (lo hi : Option Int) : List α := (xs.drop (HT.sIx xs.length 0 lo)).take (HT.sIx xs.length xs.length hi - HT.sIx xs.length 0 lo)
theorem cut_map {α β : Type} (f : α → β) (xs : List α) (lo hi : Option Int) : cut (xs.map f) lo hi = (cut xs lo hi).map f := by
  unfold cut
  rw [List.length_map, List.map_take, List.map_drop]
theorem cut_dp {K : PySem.W.Frag} {F : Hp} {vs : List V} {lo hi : Option Int} (h : DpAll K F vs ds) : DpAll K F (cutV vs lo hi) (cut ds lo hi) := by
  unfold cutV cut
  rw [h.zlen]
  exact (h.zdrop _).ztake _
theorem f_sl {lo hi : Option Expr} {l u : Option Int} {p2 : Pos} (ha : QJ S γ a .l ds) (hl : OJ S γ lo l) (hu : OJ S γ hi u) : FJ S γ (.Subscript a (.Slice lo hi none p2) pos) (cut ds l u) := fun σ H F at_ Q q =>
  wE_of (t := tSl (rSlL S.K) (wE S a) (wO S lo) (wO S hi)) (fun X hX => hX.K ▸ pe_slice sl_list (pe_w hX) (po_w hX) (po_w hX)) (ha σ H F at_ _ fun v H1 F1 a1 x1 ⟨p, vs, e1, h1, h2⟩ => hl σ H1 F1 a1 _ fun H2 F2 a2 x2 => hu σ H2 F2 a2 _ fun H3 F3 a3 x3 => by
    subst e1
    refine ⟨p, vs, rfl, SqX.ext (k := .l) (x2.trans x3).h h1, fun p2 hp => ?_⟩
    have x4 : Ex2 H3 F3 (upd H3 p2 (.lst (cutV vs l u))) F3 := ex_newH hp
    exact q _ _ _ (a3.ex x4 (a3.hf.newH hp)) (((x1.trans x2).trans x3).trans x4) ⟨p2, _, rfl, ((x1.trans x2).trans x3).h.back hp, a3.hf.fnone hp, upd_same, cut_dp (h2.zmono (x2.trans x3).f)⟩)
theorem cut_whole {α : Type} {xs : List α} {l u : Option Int} (h : HT.sIx xs.length 0 l = 0 ∧ HT.sIx xs.length xs.length u = xs.length) : cut xs l u = xs := by
  unfold cut
  rw [h.1, h.2, List.drop_zero, Nat.sub_zero, List.take_length]
theorem e_slT {lo hi : Option Expr} {l u : Option Int} {p2 : Pos} (ha : EJ S γ a (.tuple ds)) (hl : OJ S γ lo l) (hu : OJ S γ hi u) : EJ S γ (.Subscript a (.Slice lo hi none p2) pos) (.tuple (cut ds l u)) := fun σ H F at_ Q q =>
  wE_of (t := tSl (rSlA S.K) (wE S a) (wO S lo) (wO S hi)) (fun X hX => hX.K ▸ pe_slice sl_tupA (pe_w hX) (po_w hX) (po_w hX)) (ha σ H F at_ _ fun v H1 F1 a1 x1 dv => hl σ H1 F1 a1 _ fun H2 F2 a2 x2 => hu σ H2 F2 a2 _ fun H3 F3 a3 x3 => by
    cases dv with
    | @tup p vs _ h1 h2 =>
    refine ⟨p, vs, rfl, SqX.ext (k := .t) (x2.trans x3).h (a1.hf.le.sqT h1), fun hw => ?_, fun _ p2 hp => ?_⟩
    · rw [h2.zlen] at hw
      refine q _ H3 F3 a3 ((x1.trans x2).trans x3) ?_
      rw [cut_whole hw]
      exact (Dp.tup h1 h2).zmono (x2.trans x3).f
    · have x4 : Ex2 H3 F3 (upd H3 p2 (.tup (cutV vs l u))) (upd F3 p2 (.tup (cutV vs l u))) := ex_new a3.hf hp
      exact q _ _ _ (a3.ex x4 (a3.hf.new hp fun _ z => by cases z)) (((x1.trans x2).trans x3).trans x4) (.tup (SqT.of upd_same) (cut_dp (h2.zmono ((x2.trans x3).trans x4).f))))
theorem e_slTT {α : Type} {enc : α → PyData} {xs : List α} {lo hi : Option Expr} {l u : Option Int} {p2 : Pos} (ha : EJ S γ a (.tuple (xs.map enc))) (hl : OJ S γ lo l) (hu : OJ S γ hi u) : EJ S γ (.Subscript a (.Slice lo hi none p2) pos) (.tuple ((cut xs l u).map enc)) := by
  rw [← cut_map]; exact e_slT ha hl hu
theorem f_slT {α : Type} {enc : α → PyData} {xs : List α} {lo hi : Option Expr} {l u : Option Int} {p2 : Pos} (ha : QJ S γ a .l (xs.map enc)) (hl : OJ S γ lo l) (hu : OJ S γ hi u) : FJ S γ (.Subscript a (.Slice lo hi none p2) pos) ((cut xs l u).map enc) := by
  rw [← cut_map]; exact f_sl ha hl hu
theorem f_rev {k : Nat} {p1 p2 p3 : Pos} (ha : QJ S γ a .l ds) : FJ S γ (.Subscript a (.Slice none none (some (.UnaryOp .USub (.Constant (.int 1) k p1) p2)) p3) pos) ds.reverse := fun σ H F at_ Q q =>
  wE_of (t := tRevL S.K (wE S a)) (fun X hX => hX.K ▸ pe_revL (pe_w hX)) (ha σ H F at_ _ fun v H1 F1 a1 x1 ⟨p, vs, e1, h1, h2⟩ => by
    subst e1
    refine ⟨p, vs, rfl, h1, fun p2 hp => ?_⟩
    have x4 : Ex2 H1 F1 (upd H1 p2 (.lst vs.reverse)) F1 := ex_newH hp
    exact q _ _ _ (a1.ex x4 (a1.hf.newH hp)) (x1.trans x4) ⟨p2, _, rfl, x1.h.back hp, a1.hf.fnone hp, upd_same, h2.zrev⟩)
end
end SM

set_option autoImplicit false
set_option Elab.async false
set_option linter.all false
set_option maxRecDepth 100000
set_option maxHeartbeats 4000000
namespace SM
open PySem PySem.Spec PyProof.Rows L2
section
variable {S : Stat} {γ : Gm} {e a b c : Expr} {d : PyData} {ds es : List PyData} {pos p : Pos}

/-! ### calls of built-ins -/
/-- the name is the module's or a built-in's -/
abbrev IsGl (S : Stat) (x : Str) : Prop := S.sc.names.lookup x = some .globalImplicit
theorem IsCx.gl {X : Cx} {x : Str} (hX : IsCx S X) (h : IsGl S x) : Gl X x := by
  show X.env.scope.names.lookup x = some .globalImplicit
  rw [hX.sc]; exact h
theorem IsCx.mgn {X : Cx} {x : Str} {o : Option Value} (hX : IsCx S X) (h : S.mg x = o) : X.mg x = o := by rw [hX.mg]; exact h
/-- f(a), f a built-in function: the argument as P tells -/
theorem w_b1 {id : String} {x : Str} {r : List V → Hp → VK → Prop} {P P' : V → Hp → Hp → Hp → Prop} (ho : ∀ X, IsCx S X → CallR X (.builtin id) r) (hg : IsGl S x) (hm : S.mg x = none) (hv : bootBuiltins x = some (.builtin id)) (hs : PlainE a) (ha : EW S γ a P)
    (hr : ∀ v H0 F0 H F Q, AtH S H F → Ex2 H0 F0 H F → P v H0 H F → (∀ w H' F', HF H' F' → Ex2 H F H' F' → P' w H0 H' F' → Q w H') → r [v] H Q) (hn : x ≠ "__name__") (hdb : (x == ("__debug__" : Str)) = false) : EW S γ (.Call (.Name x p) [a] [] pos) P' := fun σ H F at_ Q q =>
  wE_of (fun X hX => pe_callB (ho X hX) (hX.gl hg) (hX.mgn hm) hv (pa_cons (pe_w hX) pa_nil (hs [] X.env)) hn hdb (hs [] X.env) rfl) (ha σ H F at_ _ fun v H1 F1 a1 x1 p1 =>
    hr v H F H1 F1 Q a1.toAtH x1 p1 fun w H2 F2 hf x2 p2 => q w H2 F2 (a1.ex x2 hf) (x1.trans x2) p2)
theorem w_t1 {T : String} {x : Str} {r : List V → Hp → VK → Prop} {P P' : V → Hp → Hp → Hp → Prop} (ho : ∀ X, IsCx S X → CallR X (.type T) r) (hg : IsGl S x) (hm : S.mg x = none) (hv : bootBuiltins x = some (.type T)) (hs : PlainE a) (ha : EW S γ a P)
    (hr : ∀ v H0 F0 H F Q, AtH S H F → Ex2 H0 F0 H F → P v H0 H F → (∀ w H' F', HF H' F' → Ex2 H F H' F' → P' w H0 H' F' → Q w H') → r [v] H Q) (hn : x ≠ "__name__") (hdb : (x == ("__debug__" : Str)) = false) : EW S γ (.Call (.Name x p) [a] [] pos) P' := fun σ H F at_ Q q =>
  wE_of (fun X hX => pe_callTy (ho X hX) (hX.gl hg) (hX.mgn hm) hv (pa_cons (pe_w hX) pa_nil (hs [] X.env)) hn hdb (hs [] X.env) rfl) (ha σ H F at_ _ fun v H1 F1 a1 x1 p1 =>
    hr v H F H1 F1 Q a1.toAtH x1 p1 fun w H2 F2 hf x2 p2 => q w H2 F2 (a1.ex x2 hf) (x1.trans x2) p2)
theorem w_b2 {id : String} {x : Str} {r : List V → Hp → VK → Prop} {da db dc : PyData} (ho : ∀ X, IsCx S X → CallR X (.builtin id) r) (hg : IsGl S x) (hm : S.mg x = none) (hv : bootBuiltins x = some (.builtin id)) (hs : PlainE a) (hs2 : PlainE b) (ha : EJ S γ a da) (hb : EJ S γ b db)
    (hr : ∀ v u H F Q, AtH S H F → Dp S.K F v da → Dp S.K F u db → (∀ w, Dp S.K F w dc → Q w H) → r [v, u] H Q) (hn : x ≠ "__name__") (hdb : (x == ("__debug__" : Str)) = false) (hpl : ∀ X : Cx, (backTo pos (starEach [b] X.env)).any (·.1) = false) : EJ S γ (.Call (.Name x p) [a, b] [] pos) dc := fun σ H F at_ Q q =>
  wE_of (fun X hX => pe_callB (ho X hX) (hX.gl hg) (hX.mgn hm) hv (pa_cons (pe_w hX) (pa_cons (pe_w hX) pa_nil (hs2 [] X.env)) (hs [b] X.env)) hn hdb (hs [b] X.env) (hpl X)) (ha σ H F at_ _ fun v H1 F1 a1 x1 p1 => hb σ H1 F1 a1 _ fun u H2 F2 a2 x2 p2 =>
    hr v u H2 F2 Q a2.toAtH (p1.zmono x2.f) p2 fun w dw => q w H2 F2 a2 (x1.trans x2) dw)
theorem e_len {k : SK} (hg : IsGl S "len") (hm : S.mg "len" = none) (ha : QJ S γ a k ds) (hs : PlainE a) : EJ S γ (.Call (.Name "len" p) [a] [] pos) (.int ds.length) :=
  w_b1 (r := fun xs H Q => ∃ p ys, xs = [.ref p] ∧ (SqL S.K H p ys ∨ SqT S.K H p ys) ∧ Q (.int ys.length) H) (fun X hX => hX.K ▸ call_len_seq) hg hm PySem.boot_len hs ha (fun v H0 F0 H F Q at_ x ⟨q, vs, e1, h1, h2⟩ k2 => by
    subst e1
    refine ⟨q, vs, rfl, ?_, k2 _ H F at_.hf (Ex2.refl H F) (by rw [h2.zlen]; exact .int _)⟩
    cases k with
    | l => exact .inl h1
    | t => exact .inr h1) (by decide) (by decide)
theorem e_lenT {α : Type} {enc : α → PyData} {xs : List α} {k : SK} (hg : IsGl S "len") (hm : S.mg "len" = none) (ha : QJ S γ a k (xs.map enc)) (hs : PlainE a) : EJ S γ (.Call (.Name "len" p) [a] [] pos) (.int xs.length) := by
  have := e_len (p := p) (pos := pos) hg hm ha hs
  rw [List.length_map] at this; exact this
theorem e_abs {i : Int} (hg : IsGl S "abs") (hm : S.mg "abs" = none) (ha : EJ S γ a (.int i)) (hs : PlainE a) : EJ S γ (.Call (.Name "abs" p) [a] [] pos) (.int (i.natAbs : Int)) :=
  w_b1 (fun X hX => call_abs) hg hm boot_abs hs ha (fun v H0 F0 H F Q at_ x d1 k2 => by
    cases d1
    have e : (if i < 0 then -i else i) = (i.natAbs : Int) := by split <;> omega
    exact ⟨i, rfl, k2 _ H F at_.hf (Ex2.refl H F) (by rw [e]; exact .int _)⟩) (by decide) (by decide)
theorem e_int1 {i : Int} (hg : IsGl S "int") (hm : S.mg "int" = none) (ha : EJ S γ a (.int i)) (hs : PlainE a) : EJ S γ (.Call (.Name "int" p) [a] [] pos) (.int i) :=
  w_t1 (fun X hX => call_int1) hg hm boot_int hs ha (fun v H0 F0 H F Q at_ x d1 k2 => by
    cases d1
    exact .inl ⟨i, rfl, k2 _ H F at_.hf (Ex2.refl H F) (.int _)⟩) (by decide) (by decide)
theorem e_max2 {x y : Int} (hg : IsGl S "max") (hm : S.mg "max" = none) (ha : EJ S γ a (.int x)) (hb : EJ S γ b (.int y)) (hs : PlainE a) (hs2 : PlainE b) (hpl : ∀ X : Cx, (backTo pos (starEach [b] X.env)).any (·.1) = false) : EJ S γ (.Call (.Name "max" p) [a, b] [] pos) (.int (max x y)) :=
  w_b2 (fun X hX => call_max2 hX.calm) hg hm boot_max hs hs2 ha hb (fun v u H F Q at_ d1 d2 k => by
    cases d1; cases d2
    have e : (if y > x then y else x) = max x y := by split <;> omega
    exact ⟨x, y, rfl, k _ (by rw [e]; exact .int _)⟩) (by decide) (by decide) hpl
theorem e_min2 {x y : Int} (hg : IsGl S "min") (hm : S.mg "min" = none) (ha : EJ S γ a (.int x)) (hb : EJ S γ b (.int y)) (hs : PlainE a) (hs2 : PlainE b) (hpl : ∀ X : Cx, (backTo pos (starEach [b] X.env)).any (·.1) = false) : EJ S γ (.Call (.Name "min" p) [a, b] [] pos) (.int (min x y)) :=
  w_b2 (fun X hX => call_min2 hX.calm) hg hm boot_min hs hs2 ha hb (fun v u H F Q at_ d1 d2 k => by
    cases d1; cases d2
    have e : (if y < x then y else x) = min x y := by split <;> omega
    exact ⟨x, y, rfl, k _ (by rw [e]; exact .int _)⟩) (by decide) (by decide) hpl
theorem DpAll.ints {K : PySem.W.Frag} {F : Hp} : ∀ {ns : List Int} {vs : List V}, DpAll K F vs (ns.map .int) → vs = ns.map V.int
  | [], _, .nil => rfl
  | n :: ns, _, .cons h t => by cases h; rw [DpAll.ints t]; rfl
theorem DpAll.bools {K : PySem.W.Frag} {F : Hp} : ∀ {ns : List Bool} {vs : List V}, DpAll K F vs (ns.map .bool) → vs = ns.map V.bl
  | [], _, .nil => rfl
  | n :: ns, _, .cons h t => by cases h; rw [DpAll.bools t]; rfl
theorem e_sum {ns : List Int} (hg : IsGl S "sum") (hm : S.mg "sum" = none) (ha : QJ S γ a .l (ns.map .int)) (hs : PlainE a) : EJ S γ (.Call (.Name "sum" p) [a] [] pos) (.int ns.sum) :=
  w_b1 (r := rSum S.K) (fun X hX => hX.K ▸ cr_sum hX.calm) hg hm boot_sum hs ha (fun v H0 F0 H F Q at_ x ⟨q, vs, e1, h1, h2⟩ k2 => by
    subst e1
    obtain rfl := DpAll.ints h2
    exact ⟨q, ns, rfl, h1, k2 _ H F at_.hf (Ex2.refl H F) (.int _)⟩) (by decide) (by decide)
theorem e_maxL {ns : List Int} {m : Int} (hg : IsGl S "max") (hm : S.mg "max" = none) (ha : QJ S γ a .l (ns.map .int)) (he : ns.max? = some m) (hs : PlainE a) : EJ S γ (.Call (.Name "max" p) [a] [] pos) (.int m) :=
  w_b1 (r := rMax S.K) (fun X hX => hX.K ▸ cr_max hX.calm) hg hm boot_max hs ha (fun v H0 F0 H F Q at_ x ⟨q, vs, e1, h1, h2⟩ k2 => by
    subst e1
    obtain rfl := DpAll.ints h2
    obtain ⟨he1, he2⟩ := List.max?_eq_some_iff.mp he
    refine ⟨q, ns, rfl, h1, ?_, fun m' hm' hle => ?_⟩
    · cases ns with
      | nil => cases he
      | cons _ _ => exact Nat.succ_pos _
    · obtain rfl : m' = m := Int.le_antisymm (he2 m' hm') (hle m he1)
      exact k2 _ H F at_.hf (Ex2.refl H F) (.int _)) (by decide) (by decide)
theorem e_minL {ns : List Int} {m : Int} (hg : IsGl S "min") (hm : S.mg "min" = none) (ha : QJ S γ a .l (ns.map .int)) (he : ns.min? = some m) (hs : PlainE a) : EJ S γ (.Call (.Name "min" p) [a] [] pos) (.int m) :=
  w_b1 (r := rMin S.K) (fun X hX => hX.K ▸ cr_min hX.calm) hg hm boot_min hs ha (fun v H0 F0 H F Q at_ x ⟨q, vs, e1, h1, h2⟩ k2 => by
    subst e1
    obtain rfl := DpAll.ints h2
    obtain ⟨he1, he2⟩ := List.min?_eq_some_iff.mp he
    refine ⟨q, ns, rfl, h1, ?_, fun m' hm' hle => ?_⟩
    · cases ns with
      | nil => cases he
      | cons _ _ => exact Nat.succ_pos _
    · obtain rfl : m' = m := Int.le_antisymm (hle m he1) (he2 m' hm')
      exact k2 _ H F at_.hf (Ex2.refl H F) (.int _)) (by decide) (by decide)
theorem e_all {bs : List Bool} (hg : IsGl S "all") (hm : S.mg "all" = none) (ha : QJ S γ a .l (bs.map .bool)) (hs : PlainE a) : EJ S γ (.Call (.Name "all" p) [a] [] pos) (.bool (bs.all id)) :=
  w_b1 (r := rAll S.K) (fun X hX => hX.K ▸ cr_all hX.calm) hg hm boot_all hs ha (fun v H0 F0 H F Q at_ x ⟨q, vs, e1, h1, h2⟩ k2 => by
    subst e1
    obtain rfl := DpAll.bools h2
    exact ⟨q, bs, rfl, h1, k2 _ H F at_.hf (Ex2.refl H F) (.bl _)⟩) (by decide) (by decide)
theorem e_any {bs : List Bool} (hg : IsGl S "any") (hm : S.mg "any" = none) (ha : QJ S γ a .l (bs.map .bool)) (hs : PlainE a) : EJ S γ (.Call (.Name "any" p) [a] [] pos) (.bool (bs.any id)) :=
  w_b1 (r := rAny S.K) (fun X hX => hX.K ▸ cr_any hX.calm) hg hm boot_any hs ha (fun v H0 F0 H F Q at_ x ⟨q, vs, e1, h1, h2⟩ k2 => by
    subst e1
    obtain rfl := DpAll.bools h2
    exact ⟨q, bs, rfl, h1, k2 _ H F at_.hf (Ex2.refl H F) (.bl _)⟩) (by decide) (by decide)
/-- tuple(list), tuple(tuple) -/
theorem e_tuple {k : SK} (hg : IsGl S "tuple") (hm : S.mg "tuple" = none) (ha : QJ S γ a .l ds) (hs : PlainE a) : EJ S γ (.Call (.Name "tuple" p) [a] [] pos) (.tuple ds) :=
  w_t1 (r := fun xs H Q => ∃ p ys, xs = [.ref p] ∧ ((SqL S.K H p ys ∧ ∀ l, H l = none → Q (.ref l) (upd H l (.tup ys))) ∨ (SqT S.K H p ys ∧ Q (.ref p) H))) (fun X hX => hX.K ▸ call_tuple_of) hg hm boot_tuple hs ha (fun v H0 F0 H F Q at_ x ⟨q, vs, e1, h1, h2⟩ k2 => by
    subst e1
    refine ⟨q, vs, rfl, .inl ⟨h1, fun l hl => ?_⟩⟩
    have x4 : Ex2 H F (upd H l (.tup vs)) (upd F l (.tup vs)) := ex_new at_.hf hl
    exact k2 _ _ _ (at_.hf.new hl fun _ z => by cases z) x4 (.tup (SqT.of upd_same) (h2.zmono x4.f))) (by decide) (by decide)
theorem e_tupleT (hg : IsGl S "tuple") (hm : S.mg "tuple" = none) (ha : EJ S γ a (.tuple ds)) (hs : PlainE a) : EJ S γ (.Call (.Name "tuple" p) [a] [] pos) (.tuple ds) :=
  w_t1 (r := fun xs H Q => ∃ p ys, xs = [.ref p] ∧ ((SqL S.K H p ys ∧ ∀ l, H l = none → Q (.ref l) (upd H l (.tup ys))) ∨ (SqT S.K H p ys ∧ Q (.ref p) H))) (fun X hX => hX.K ▸ call_tuple_of) hg hm boot_tuple hs ha (fun v H0 F0 H F Q at_ x d1 k2 => by
    cases d1 with
    | @tup q vs _ h1 h2 => exact ⟨q, vs, rfl, .inr ⟨at_.hf.le.sqT h1, k2 _ H F at_.hf (Ex2.refl H F) (.tup h1 h2)⟩⟩) (by decide) (by decide)
theorem f_list {k : SK} (hg : IsGl S "list") (hm : S.mg "list" = none) (ha : QJ S γ a k ds) (hs : PlainE a) : FJ S γ (.Call (.Name "list" p) [a] [] pos) ds :=
  w_t1 (r := fun xs H Q => ∃ p ys, xs = [.ref p] ∧ (SqL S.K H p ys ∨ SqT S.K H p ys) ∧ ∀ l, H l = none → Q (.ref l) (upd H l (.lst ys))) (fun X hX => hX.K ▸ call_list_of) hg hm boot_list hs ha (fun v H0 F0 H F Q at_ x ⟨q, vs, e1, h1, h2⟩ k2 => by
    subst e1
    refine ⟨q, vs, rfl, ?_, fun l hl => ?_⟩
    · cases k with
      | l => exact .inl h1
      | t => exact .inr h1
    · exact k2 _ _ _ (at_.hf.newH hl) (ex_newH hl) ⟨l, vs, rfl, x.h.back hl, at_.hf.fnone hl, upd_same, h2⟩) (by decide) (by decide)

/-! ### isinstance -/
def tyN : PyData → String
  | .none => "NoneType"
  | .bool _ => "bool"
  | .int _ => "int"
  | .str _ => "str"
  | .list _ => "list"
  | .tuple _ => "tuple"
  | .dict _ => "dict"
def isInst (T : String) (d : PyData) : Bool := tyN d == T || (T == "int" && tyN d == "bool")
theorem tyX_of {K : PySem.W.Frag} {H F : Hp} {v : V} {d : PyData} (hf : HF H F) (h : Dp K F v d) : TyX K H v (.type (tyN d)) := by
  cases h with
  | non => exact .base .non
  | bl b => exact .base (.bl b)
  | int i => exact .base (.int i)
  | str x => exact .base (.str x)
  | lst h1 h2 =>
    rcases h1 with (h | ⟨o, h⟩) | ⟨o, its, n, hk, hc, _⟩
    · exact .base (.lst (hf.sub _ _ h))
    · exact .base (.frz (hf.sub _ _ h))
    · exact .kList hk hc
  | tup h1 h2 =>
    rcases h1 with (h | ⟨o, h⟩) | ⟨o, its, n, hk, hc, _⟩
    · exact .base (.tup (hf.sub _ _ h))
    · exact .fTuple (hf.sub _ _ h)
    · exact .kTuple hk hc
theorem e_isi {T : String} {x : Str} {p2 : Pos} (hg : IsGl S "isinstance") (hm : S.mg "isinstance" = none) (hg2 : IsGl S x) (hm2 : S.mg x = none) (hv : bootBuiltins x = some (.type T)) (ha : EJ S γ a d) (hs : PlainE a) (hk : kitB (tyN d) T = some (isInst T d))
    (hpl : ∀ X : Cx, (backTo pos (starEach [.Name x p2] X.env)).any (·.1) = false) (hn : x ≠ "__name__") (hdb : (x == ("__debug__" : Str)) = false) : EJ S γ (.Call (.Name "isinstance" p) [a, .Name x p2] [] pos) (.bool (isInst T d)) := fun σ H F at_ Q q =>
  wE_of (t := tCB (rIsi S.K) (tCons (wE S a) (tCons (tC (.ty T)) tNil))) (fun X hX => hX.K ▸ pe_callB call_isi (hX.gl hg) (hX.mgn hm) (by decide +kernel) (pa_cons (pe_w hX) (pa_cons (pe_bltn (hX.gl hg2) (hX.mgn hm2) hv rfl hn hdb) pa_nil rfl) (hs _ X.env)) (by decide) (by decide) (hs _ X.env) (hpl X))
    (ha σ H F at_ _ fun v H1 F1 a1 x1 d1 => ⟨v, .ty T, _, _, _, rfl, .ty T, tyX_of a1.hf d1, kit_ty hk, q _ H1 F1 a1 x1 (.bl _)⟩)

/-! ### +, * of sequences -/
theorem add_lq {prog : Program} {w : World} {A : Around} {E : Value → Shared → Prop} {s : Shared} {l b : Addr} {vs ws : List Value} {Q : Value → Shared → Prop} (hl : s.heap.IsList l vs.toArray) (hb : s.heap.IsList b ws.toArray) (hz : vs.length + ws.length ≤ sizeLine)
    (h : Q (.ref s.heap.objs.size) { s with heap := s.heap.push { cls := .type "list", data := .seq (vs ++ ws).toArray } }) : wpAny (model prog w) A (binaryOp .Add (.ref l) (.ref b)) Q E s := by
  obtain ⟨⟨c1, d1, q1, l1⟩, e1, k1, n1, j1⟩ := hl
  obtain ⟨⟨c2, d2, q2, l2⟩, e2, k2, n2, j2⟩ := hb
  obtain rfl : c1 = _ := k1
  obtain rfl : q1 = _ := j1
  obtain rfl : c2 = _ := k2
  obtain rfl : q2 = _ := j2
  have ea : vs.toArray ++ ws.toArray = (vs ++ ws).toArray := by simp
  refine concat_meets ⟨_, e1, rfl⟩ ⟨_, e2, rfl⟩ noFill_list_add seq_list_add PySem.F.slot_list_add PySem.F.entry_list_add (PySem.F.args_list_add_2 _ _) (list_addW l b vs.toArray ws.toArray n1 n2 d1 d2 l1 l2 (by simpa using hz)) ⟨e1, e2, ?_⟩
  rw [ea]
  exact h
def rCatQ (K : PySem.W.Frag) : R2 := fun x y H Q => ∃ l b xs zs, x = .ref l ∧ y = .ref b ∧ SqL K H l xs ∧ SqL K H b zs ∧ xs.length + zs.length ≤ sizeLine ∧ ∀ p, H p = none → Q (.ref p) (upd H p (.lst (xs ++ zs)))
theorem op_catQ {X : Cx} : OpR X (binaryOp .Add) (rCatQ X.K) := by
  intro pins s σ H x y v u Q I rx ry h
  obtain ⟨l, b, xs, zs, rfl, rfl, hl, hb, hz, q⟩ := h
  cases rx; cases ry
  obtain ⟨i1, r1, p1, z1⟩ := I.list hl
  obtain ⟨i2, r2, p2, z2⟩ := I.list hb
  refine add_lq p1.isList p2.isList (by rw [← r1.length, ← r2.length]; exact hz) ?_
  exact ⟨.ref _, _, I.lnew (t' := s.toks) (r1.append r2) (by rw [List.length_append]; exact hz), rfl, q _ I.fresh⟩
theorem f_cat (ha : QJ S γ a .l ds) (hb : QJ S γ b .l es) (hz : ds.length + es.length ≤ sizeLine) : FJ S γ (.BinOp a .Add b pos) (ds ++ es) := fun σ H F at_ Q q =>
  wE_of (t := tOp (rCatQ S.K) (wE S a) (wE S b)) (fun X hX => hX.K ▸ pe_op op_catQ (pe_w hX) (pe_w hX)) (ha σ H F at_ _ fun v H1 F1 a1 x1 ⟨p1, vs, e1, h1, h2⟩ => hb σ H1 F1 a1 _ fun u H2 F2 a2 x2 ⟨p2, us, e2, k1, k2⟩ => by
    subst e1; subst e2
    refine ⟨p1, p2, vs, us, rfl, rfl, SqX.ext (k := .l) x2.h h1, k1, by rw [h2.zlen, k2.zlen]; exact hz, fun p hp => ?_⟩
    have x4 : Ex2 H2 F2 (upd H2 p (.lst (vs ++ us))) F2 := ex_newH hp
    exact q _ _ _ (a2.ex x4 (a2.hf.newH hp)) ((x1.trans x2).trans x4) ⟨p, _, rfl, (x1.trans x2).h.back hp, a2.hf.fnone hp, upd_same, (h2.zmono x2.f).zapp k2⟩)
theorem f_catT {α : Type} {enc : α → PyData} {xs ys : List α} (ha : QJ S γ a .l (xs.map enc)) (hb : QJ S γ b .l (ys.map enc)) (hz : xs.length + ys.length ≤ sizeLine) : FJ S γ (.BinOp a .Add b pos) ((xs ++ ys).map enc) := by
  rw [List.map_append]; exact f_cat ha hb (by rw [List.length_map, List.length_map]; exact hz)
theorem e_cat (ha : EJ S γ a (.tuple ds)) (hb : EJ S γ b (.tuple es)) (hz : ds.length + es.length ≤ sizeLine) : EJ S γ (.BinOp a .Add b pos) (.tuple (ds ++ es)) :=
  e_bin (r := rCatA S.K) (fun X hX => hX.K ▸ op_catA) ha hb fun v u H F Q at_ d1 d2 q => by
    cases d1 with
    | @tup p1 vs _ h1 h2 =>
    cases d2 with
    | @tup p2 us _ k1 k2 =>
    refine ⟨p1, p2, vs, us, rfl, rfl, at_.hf.le.sqT h1, at_.hf.le.sqT k1, by rw [h2.zlen, k2.zlen]; exact hz, fun e => ?_, fun _ e => ?_, fun _ _ p hp => ?_⟩
    · subst e
      cases h2
      exact q _ H F at_.hf (Ex2.refl H F) (.tup k1 k2)
    · subst e
      cases k2
      rw [List.append_nil] at q
      exact q _ H F at_.hf (Ex2.refl H F) (.tup h1 h2)
    · have x4 : Ex2 H F (upd H p (.tup (vs ++ us))) (upd F p (.tup (vs ++ us))) := ex_new at_.hf hp
      exact q _ _ _ (at_.hf.new hp fun _ z => by cases z) x4 (.tup (SqT.of upd_same) ((h2.zapp k2).zmono x4.f))
theorem e_catTT {α : Type} {enc : α → PyData} {xs ys : List α} (ha : EJ S γ a (.tuple (xs.map enc))) (hb : EJ S γ b (.tuple (ys.map enc))) (hz : xs.length + ys.length ≤ sizeLine) : EJ S γ (.BinOp a .Add b pos) (.tuple ((xs ++ ys).map enc)) := by
  rw [List.map_append]; exact e_cat ha hb (by rw [List.length_map, List.length_map]; exact hz)
theorem flat1 {α : Type} (x : α) : ∀ n : Nat, (List.replicate n [x]).flatten = List.replicate n x
  | 0 => rfl
  | n + 1 => by rw [List.replicate_succ, List.replicate_succ, List.flatten_cons, flat1 x n]; rfl
theorem DpAll.rep {K : PySem.W.Frag} {F : Hp} {v : V} (h : Dp K F v d) : ∀ n : Nat, DpAll K F (List.replicate n v) (List.replicate n d)
  | 0 => .nil
  | n + 1 => .cons h (DpAll.rep h n)
/-- [x] * n -/
theorem f_rep {i : Int} (ha : FJ S γ a [d]) (hb : EJ S γ b (.int i)) (hz : i ≤ 16777216) (hz0 : -16777216 ≤ i) : FJ S γ (.BinOp a .Mult b pos) (List.replicate i.toNat d) := fun σ H F at_ Q q =>
  wE_of (fun X hX => pe_op op_rep (pe_w hX) (pe_w hX)) (ha σ H F at_ _ fun v H1 F1 a1 x1 ⟨p1, vs, e1, _, _, h1, h2⟩ => hb σ H1 F1 a1 _ fun u H2 F2 a2 x2 d2 => by
    subst e1
    cases d2
    cases h2 with
    | @cons v0 _ _ _ hv hn =>
    cases hn
    refine ⟨p1, i, [v0], rfl, rfl, x2.h.keep _ _ h1 (fun _ z => by cases z), by omega, by omega, ?_, fun p hp => ?_⟩
    · rw [sizeLine_eq]; show 1 * i.toNat ≤ 16777216; omega
    · rw [flat1]
      have x4 : Ex2 H2 F2 (upd H2 p (.lst (List.replicate i.toNat v0))) F2 := ex_newH hp
      exact q _ _ _ (a2.ex x4 (a2.hf.newH hp)) ((x1.trans x2).trans x4) ⟨p, _, rfl, (x1.trans x2).h.back hp, a2.hf.fnone hp, upd_same, DpAll.rep (hv.zmono x2.f) _⟩)

/-! ### in, not in -/
theorem inV_ints (i : Int) : ∀ ns : List Int, inV (.int i) (ns.map V.int) = decide (i ∈ ns)
  | [] => rfl
  | n :: ns => by
    have ih := inV_ints i ns
    show (eqV (.int n) (.int i) || inV (.int i) (ns.map V.int)) = _
    rw [ih]
    have : eqV (.int n) (.int i) = decide (i = n) := by
      show (n == i) = _
      rw [Bool.eq_iff_iff, beq_iff_eq, decide_eq_true_iff]
      exact eq_comm
    rw [this, Bool.eq_iff_iff, Bool.or_eq_true, decide_eq_true_iff, decide_eq_true_iff, decide_eq_true_iff, List.mem_cons]
theorem flat_ints : ∀ ns : List Int, (ns.map V.int).all flatV = true
  | [] => rfl
  | n :: ns => by show (true && (ns.map V.int).all flatV) = true; rw [flat_ints ns]; rfl
theorem c_inI {i : Int} {ns : List Int} {k : SK} (ha : EJ S γ a (.int i)) (hb : QJ S γ b k (ns.map .int)) : CJ S γ .In a b (decide (i ∈ ns)) :=
  ⟨rIn S.K false, fun X hX => hX.K ▸ op_in_seq, fun σ H F at_ Q q => ha σ H F at_ _ fun v H1 F1 a1 x1 d1 => hb σ H1 F1 a1 _ fun u H2 F2 a2 x2 ⟨p, us, e1, h1, h2⟩ => by
    subst e1; cases d1
    obtain rfl := DpAll.ints h2
    refine ⟨p, _, rfl, ?_, rfl, flat_ints ns, ?_⟩
    · cases k with
      | l => exact .inl h1
      | t => exact .inr h1
    · show Q (.bl (inV (.int i) (ns.map V.int))) H2
      rw [inV_ints]; exact q H2 F2 a2 (x1.trans x2)⟩
theorem c_notInI {i : Int} {ns : List Int} {k : SK} (ha : EJ S γ a (.int i)) (hb : QJ S γ b k (ns.map .int)) : CJ S γ .NotIn a b (!decide (i ∈ ns)) :=
  ⟨rIn S.K true, fun X hX => hX.K ▸ op_notIn_seq, fun σ H F at_ Q q => ha σ H F at_ _ fun v H1 F1 a1 x1 d1 => hb σ H1 F1 a1 _ fun u H2 F2 a2 x2 ⟨p, us, e1, h1, h2⟩ => by
    subst e1; cases d1
    obtain rfl := DpAll.ints h2
    refine ⟨p, _, rfl, ?_, rfl, flat_ints ns, ?_⟩
    · cases k with
      | l => exact .inl h1
      | t => exact .inr h1
    · show Q (.bl (!inV (.int i) (ns.map V.int))) H2
      rw [inV_ints]; exact q H2 F2 a2 (x1.trans x2)⟩
end
end SM

set_option autoImplicit false
set_option Elab.async false
set_option linter.all false
set_option maxRecDepth 100000
set_option maxHeartbeats 4000000
namespace SM
open PySem PySem.Spec PyProof.Rows L2

/-! ### slots stored -/
section
variable {S : Stat} {γ : Gm} {σ : L2.St} {H F : Hp} {i : Nat} {d : PyData} {v : V}
theorem get_set_ne {α : Type} {l : List α} {i j : Nat} {x : α} (h : j ≠ i) : (l.set i x)[j]? = l[j]? := List.getElem?_set_ne (Ne.symm h)
theorem set_cases {l : Gm} {j : Nat} {x y : Sl} (h : (l.set i x)[j]? = some y) : (j = i ∧ y = x ∧ i < l.length) ∨ (j ≠ i ∧ l[j]? = some y) := by
  by_cases e : j = i
  · subst e
    by_cases hl : j < l.length
    · rw [List.getElem?_set_self hl] at h
      exact .inl ⟨rfl, (Option.some.inj h).symm, hl⟩
    · rw [List.getElem?_eq_none (by rw [List.length_set]; omega)] at h; cases h
  · rw [get_set_ne e] at h; exact .inr ⟨e, h⟩
theorem At.setSh (h : At S γ σ H F) (hv : Dp S.K F v d) : At S (γ.set i (.sh d)) (σ.set i (some v)) H F where
  toAtH := h.toAtH
  len := by rw [List.length_set, List.length_set]; exact h.len
  sh := fun j e hj => by
    rcases set_cases hj with ⟨rfl, e1, hl⟩ | ⟨hne, hj⟩
    · cases e1
      exact ⟨v, List.getElem?_set_self (by rw [h.len]; exact hl), hv⟩
    · rw [get_set_ne hne]; exact h.sh j e hj
  ow := fun j e hj => by
    rcases set_cases hj with ⟨rfl, e1, hl⟩ | ⟨hne, hj⟩
    · cases e1
    · rw [get_set_ne hne]; exact h.ow j e hj
  apart := fun j k e f a hj hk h1 h2 => by
    rcases set_cases hj with ⟨rfl, e1, hl⟩ | ⟨hne, hj⟩
    · cases e1
    · rcases set_cases hk with ⟨rfl, e1, hl⟩ | ⟨hne2, hk⟩
      · cases e1
      · rw [get_set_ne hne] at h1; rw [get_set_ne hne2] at h2; exact h.apart j k e f a hj hk h1 h2
theorem At.setUn {x : Option V} (h : At S γ σ H F) : At S (γ.set i .un) (σ.set i x) H F where
  toAtH := h.toAtH
  len := by rw [List.length_set, List.length_set]; exact h.len
  sh := fun j e hj => by
    rcases set_cases hj with ⟨rfl, e1, hl⟩ | ⟨hne, hj⟩
    · cases e1
    · rw [get_set_ne hne]; exact h.sh j e hj
  ow := fun j e hj => by
    rcases set_cases hj with ⟨rfl, e1, hl⟩ | ⟨hne, hj⟩
    · cases e1
    · rw [get_set_ne hne]; exact h.ow j e hj
  apart := fun j k e f a hj hk h1 h2 => by
    rcases set_cases hj with ⟨rfl, e1, hl⟩ | ⟨hne, hj⟩
    · cases e1
    · rcases set_cases hk with ⟨rfl, e1, hl⟩ | ⟨hne2, hk⟩
      · cases e1
      · rw [get_set_ne hne] at h1; rw [get_set_ne hne2] at h2; exact h.apart j k e f a hj hk h1 h2
/-- a is held by no slot -/
def Loose (γ : Gm) (σ : L2.St) (a : Addr) : Prop := ∀ (j : Nat) (e : PyData), γ[j]? = some (.ow e) → σ[j]? ≠ some (some (.ref a))
theorem At.setOw {a : Addr} (h : At S γ σ H F) (ho : Own S H F a d) (hl : Loose γ σ a) : At S (γ.set i (.ow d)) (σ.set i (some (.ref a))) H F where
  toAtH := h.toAtH
  len := by rw [List.length_set, List.length_set]; exact h.len
  sh := fun j e hj => by
    rcases set_cases hj with ⟨rfl, e1, hl⟩ | ⟨hne, hj⟩
    · cases e1
    · rw [get_set_ne hne]; exact h.sh j e hj
  ow := fun j e hj => by
    rcases set_cases hj with ⟨rfl, e1, hl⟩ | ⟨hne, hj⟩
    · cases e1
      exact ⟨a, List.getElem?_set_self (by rw [h.len]; exact hl), ho⟩
    · rw [get_set_ne hne]; exact h.ow j e hj
  apart := fun j k e f b hj hk h1 h2 => by
    rcases set_cases hj with ⟨rfl, e1, hl1⟩ | ⟨hne, hj⟩
    · rcases set_cases hk with ⟨rfl, e2, hl2⟩ | ⟨hne2, hk⟩
      · rfl
      · rw [List.getElem?_set_self (by rw [h.len]; exact hl1)] at h1
        rw [get_set_ne hne2] at h2
        cases h1
        exact absurd h2 (hl k f hk)
    · rename_i hj0
      rcases set_cases hk with ⟨rfl, e2, hl2⟩ | ⟨hne2, hk⟩
      · rw [List.getElem?_set_self (by rw [h.len]; exact hl2)] at h2
        rw [get_set_ne hne] at h1
        cases h2
        exact absurd h1 (hl j e (by assumption))
      · rw [get_set_ne hne] at h1; rw [get_set_ne hne2] at h2; exact h.apart j k e f b hj hk h1 h2
theorem Loose.new {a : Addr} (h : At S γ σ H F) (hn : H a = none) : Loose γ σ a := fun j e hj z => by
  obtain ⟨b, h1, h2⟩ := h.ow j e hj
  rw [h1] at z
  cases z
  obtain ⟨o, ho, _⟩ := h2.there
  rw [hn] at ho; cases ho
/-- what no slot holds is changed -/
theorem At.mut {a : Addr} {o : HO} (h : At S γ σ H F) (hl : Loose γ σ a) (hF : F a = none) (hB : S.B a = none) (ht : ∀ ps, H a ≠ some (.tbl ps)) : At S γ σ (upd H a o) F where
  ext := h.ext.mut hB
  hf := ⟨fun b u e => by rw [upd_ne (fun z => by rw [z, hF] at e; cases e)]; exact h.hf.sub b u e, h.hf.ntb⟩
  f0 := h.f0
  new := h.new
  tabs := fun P hP => by
    obtain ⟨ps, h1, h2⟩ := h.tabs P hP
    exact ⟨ps, by rw [upd_ne (fun z => by rw [z] at h1; exact ht ps h1)]; exact h1, h2⟩
  len := h.len
  sh := h.sh
  ow := fun j e hj => by
    obtain ⟨b, h1, h2⟩ := h.ow j e hj
    refine ⟨b, h1, h2.keep (fun u hu => ?_) (Le.refl F) h2.fnone⟩
    rw [upd_ne (fun z => hl j e hj (by rw [h1, z]))]; exact hu
  apart := h.apart
/-- weaker slots -/
def GLe : Gm → Gm → Prop
  | [], [] => True
  | _ :: r, .un :: r' => GLe r r'
  | x :: r, y :: r' => x = y ∧ GLe r r'
  | _, _ => False
theorem GLe.len : ∀ {γ γ' : Gm}, GLe γ γ' → γ.length = γ'.length
  | [], [], _ => rfl
  | _ :: r, .un :: r', h => congrArg (· + 1) (GLe.len (γ := r) (γ' := r') h)
  | _ :: r, .sh _ :: r', h => congrArg (· + 1) (GLe.len (γ := r) (γ' := r') h.2)
  | _ :: r, .ow _ :: r', h => congrArg (· + 1) (GLe.len (γ := r) (γ' := r') h.2)
  | [], _ :: _, h => h.elim
  | _ :: _, [], h => h.elim
theorem GLe.get : ∀ {γ γ' : Gm}, GLe γ γ' → ∀ {j : Nat} {y : Sl}, γ'[j]? = some y → y = .un ∨ γ[j]? = some y
  | [], [], _, _, _, e => by simp at e
  | x :: r, .un :: r', h, 0, y, e => .inl (by simpa using e.symm)
  | x :: r, .un :: r', h, j + 1, y, e => by
    have := GLe.get (γ := r) (γ' := r') h (j := j) (y := y) (by simpa using e)
    simpa using this
  | x :: r, .sh _ :: r', h, 0, y, e => .inr (by rw [h.1]; simpa using e)
  | x :: r, .ow _ :: r', h, 0, y, e => .inr (by rw [h.1]; simpa using e)
  | x :: r, .sh _ :: r', h, j + 1, y, e => by
    have := GLe.get (γ := r) (γ' := r') h.2 (j := j) (y := y) (by simpa using e)
    simpa using this
  | x :: r, .ow _ :: r', h, j + 1, y, e => by
    have := GLe.get (γ := r) (γ' := r') h.2 (j := j) (y := y) (by simpa using e)
    simpa using this
  | [], _ :: _, h, _, _, _ => h.elim
  | _ :: _, [], h, _, _, _ => h.elim
theorem At.weak {γ' : Gm} (h : At S γ σ H F) (w : GLe γ γ') : At S γ' σ H F where
  toAtH := h.toAtH
  len := h.len.trans w.len
  sh := fun j e hj => by
    rcases w.get hj with z | z
    · cases z
    · exact h.sh j e z
  ow := fun j e hj => by
    rcases w.get hj with z | z
    · cases z
    · exact h.ow j e z
  apart := fun j k e f a hj hk h1 h2 => by
    rcases w.get hj with z | z
    · cases z
    · rcases w.get hk with y | y
      · cases y
      · exact h.apart j k e f a z y h1 h2
end

/-! ### sizes -/
def Sz (S : Stat) (H : Hp) : Prop := ∀ (a : Addr) (xs : List V) (k : SK), SqX S.K H a xs k → xs.length ≤ sizeLine
theorem EW.sz {S : Stat} {γ : Gm} {e : Expr} {P : V → Hp → Hp → Hp → Prop} (h : EW S γ e P) : EW S γ e (fun v H H' F' => P v H H' F' ∧ Sz S H') := fun σ H F at_ Q q X hX pins s I => by
  refine thn (h σ H F at_ (fun v H' => Sz S H' → Q v H') (fun v H' F' a1 x1 p1 sz => q v H' F' a1 x1 ⟨p1, sz⟩) X hX pins s I) fun u s' ⟨v, H', I', r, k⟩ => ⟨v, H', I', r, k fun a xs kd hq => ?_⟩
  cases kd with
  | l =>
    have hq' : SqL X.K H' a xs := hX.K ▸ hq
    obtain ⟨_, _, _, z⟩ := I'.list hq'
    exact z
  | t =>
    have hq' : SqT X.K H' a xs := hX.K ▸ hq
    obtain ⟨_, _, _, z⟩ := I'.tuple hq'
    exact z

/-! ### targets -/
/-- a target takes d: the slots behind it; is: the slots that it stores -/
def GJ (S : Stat) (γ : Gm) (tg : Expr) (d : PyData) (γ' : Gm) (is : List Nat) : Prop :=
  ∀ σ H F v, At S γ σ H F → Dp S.K F v d → ∀ Q : L2.St → Hp → Prop, (∀ σ', At S γ' σ' H F → σ'.length = σ.length → (∀ j, j ∉ is → σ'[j]? = σ[j]?) → Q σ' H) → wG S tg v σ H Q
def GsJ (S : Stat) (γ : Gm) (ts : List Expr) (ds : List PyData) (γ' : Gm) (is : List Nat) : Prop :=
  ∀ σ H F vs, At S γ σ H F → DpAll S.K F vs ds → ∀ Q : L2.St → Hp → Prop, (∀ σ', At S γ' σ' H F → σ'.length = σ.length → (∀ j, j ∉ is → σ'[j]? = σ[j]?) → Q σ' H) →
    ∀ X, IsCx S X → ∀ pins s us, Inv X pins σ H s → Vals vs us → wpAny (model X.prog X.w) X.A (assignInOrder ((assignEach ts X.env).map (·.2)) us) (fun _ s' => ∃ σ' H', Inv X pins σ' H' s' ∧ Q σ' H') X.xe s
section
variable {S : Stat} {γ γ' γ2 : Gm} {d : PyData} {ds : List PyData} {pos : Pos} {is js : List Nat} {tg : Expr} {ts : List Expr}
/-- a name that may be stored: its place i -/
structure NmOk (S : Stat) (x : Str) (i : Nat) : Prop where
  nd : S.N.Nodup
  at_ : S.N[i]? = some x
  loc : Loc S.sc x
  fn : S.fn x = true ∨ S.sc.names.lookup x = some .local
theorem IsCx.loc {X : Cx} {x : Str} (hX : IsCx S X) (h : Loc S.sc x) : Loc X.env.scope x := by rw [hX.sc]; exact h
theorem IsCx.fnl {X : Cx} {x : Str} (hX : IsCx S X) (h : S.fn x = true ∨ S.sc.names.lookup x = some .local) : X.fn x = true ∨ X.env.scope.names.lookup x = some .local := by rw [hX.fn, hX.sc]; exact h
theorem g_name {x : Str} {i : Nat} (n : NmOk S x i) : GJ S γ (.Name x pos) d (γ.set i (.sh d)) [i] := fun σ H F v at_ dv Q q =>
  wG_of (fun X hX => pg_name (i := i) (by rw [hX.N]; exact n.nd) (by rw [hX.N]; exact n.at_) (hX.loc n.loc) (hX.fnl n.fn)) (q _ (at_.setSh dv) (List.length_set ..) fun j hj => get_set_ne (by simpa using hj))
theorem gs_nil : GsJ S γ [] [] γ [] := fun σ H F vs at_ dv Q q X hX pins s us I r => by
  cases dv
  cases r
  exact assignInOrder_nil ⟨σ, H, I, q σ at_ rfl fun _ _ => rfl⟩
def PlainT (e : Expr) : Prop := ∀ (es : List Expr) (env : PySem.Env), (assignEach (e :: es) env).map (·.2) = assign e env :: (assignEach es env).map (·.2)
theorem gs_cons (h1 : GJ S γ tg d γ' is) (h2 : GsJ S γ' ts ds γ2 js) (hs : PlainT tg) : GsJ S γ (tg :: ts) (d :: ds) γ2 (is ++ js) := fun σ H F vs at_ dv Q q X hX pins s us I r => by
  cases dv with
  | cons d1 d2 =>
  cases r with
  | cons r1 r2 =>
  rw [hs]
  refine assignInOrder_cons (thn (h1 σ H F _ at_ d1 (fun σ1 H1 => H1 = H ∧ At S γ' σ1 H F ∧ σ1.length = σ.length ∧ ∀ j, j ∉ is → σ1[j]? = σ[j]?) (fun σ1 a1 l1 n1 => ⟨rfl, a1, l1, n1⟩) X hX pins s _ I r1) fun _ s1 ⟨σ1, H1, I1, e1, a1, l1, n1⟩ => ?_)
  subst e1
  exact h2 σ1 H1 F _ a1 d2 Q (fun σ2 a2 l2 n2 => q σ2 a2 (l2.trans l1) fun j hj => (n2 j fun z => hj (List.mem_append_right _ z)).trans (n1 j fun z => hj (List.mem_append_left _ z))) X hX pins s1 _ I1 r2
theorem g_tup {k : Nat} (h : GsJ S γ ts ds γ' is) (hn : ∀ X : Cx, (assignEach ts X.env).length = ds.length) (hst : ∀ X : Cx, (assignEach ts X.env).findIdx? (·.1) = none) : GJ S γ (.Tuple ts k pos) (.tuple ds) γ' is := fun σ H F v at_ dv Q q X hX pins s u I r => by
  cases dv with
  | @tup a vs _ h1 h2 =>
  have g : PGs X ts (fun xs σ1 H1 Q1 => xs = vs ∧ σ1 = σ ∧ H1 = H ∧ ∀ σ', At S γ' σ' H F → σ'.length = σ.length → (∀ j, j ∉ is → σ'[j]? = σ[j]?) → Q1 σ' H) :=
    ⟨fun pins s σ1 H1 xs us Q1 I1 r1 ⟨e1, e2, e3, k⟩ => by subst e1; subst e2; subst e3; exact h σ1 H1 F _ at_ h2 Q1 k X hX pins s us I1 r1⟩
  refine (pg_tup (X := X) (k := k) (pos := pos) (n := ds.length) hX.calm g (hn X) (hst X)).run pins s σ H _ u Q I r ⟨a, vs, rfl, ?_, h2.zlen, rfl, rfl, rfl, q⟩
  rw [hX.K]; exact at_.hf.le.sqT h1
end

/-! ### what is walked -/
def YD (K : PySem.W.Frag) (F : Hp) (items : List PyData) : Nat → Hp → V → Hp → Prop := fun i H x H' =>
  ∃ d, items[i]? = some d ∧ ((H' = H ∧ Dp K F x d) ∨ ∃ T xs ds, H T = none ∧ H' = upd H T (.tup xs) ∧ x = .ref T ∧ d = .tuple ds ∧ DpAll K F xs ds)
def IW (G : Hp → Hp → Hp → Prop) (S : Stat) (γ : Gm) (tg iter : Expr) (items : List PyData) : Prop :=
  ∀ σ H F, At S γ σ H F → ∀ R : It → Hp → Prop, (∀ J H1 F1, At S γ σ H1 F1 → Ex2 H F H1 F1 → items.length ≤ sizeLine → Walk J items.length (G H1 F1) (YD S.K F1 items) → R J H1) → wI S tg iter σ H R
/-- it may be walked whatever the turns change -/
abbrev IF : Stat → Gm → Expr → Expr → List PyData → Prop := IW fun _ F1 H => Le F1 H
/-- it may be walked as long as nothing changes -/
abbrev IX : Stat → Gm → Expr → Expr → List PyData → Prop := IW fun H1 _ H => Ext H1 H
section
variable {S : Stat} {γ : Gm} {tg iter a b : Expr} {d : PyData} {ds es items : List PyData} {pos p : Pos}
theorem HF.ext {H F H' : Hp} (h : HF H F) (e : Ext H H') : Le F H' := fun a o q => e.keep a o (h.sub a o q) fun ps z => h.ntb a ps (z ▸ q)
theorem IW.x (h : IF S γ tg iter items) : IX S γ tg iter items := fun σ H F at_ R q => h σ H F at_ R fun J H1 F1 a1 x1 z w => q J H1 F1 a1 x1 z (w.mono (fun H' e => a1.hf.ext e) fun _ _ _ _ _ _ y => y)
theorem yd_at {K : PySem.W.Frag} {F : Hp} {vs : List V} (h : DpAll K F vs ds) : ∀ i H x H', i < ds.length → YAt vs i H x H' → YD K F ds i H x H' := fun i H x H' _ ⟨e, hx⟩ => by
  obtain ⟨d, h1, h2⟩ := h.zget' hx
  exact ⟨d, h1, .inl ⟨e, h2⟩⟩
theorem i_list (h : EJ S γ iter (.list ds)) : IF S γ tg iter ds := fun σ H F at_ R q =>
  wI_of (t := iList S.K (wE S iter)) (fun X hX => hX.K ▸ pi_list (pe_w hX)) (h.sz σ H F at_ _ fun v H1 F1 a1 x1 ⟨dv, sz⟩ => by
    cases dv with
    | @lst p vs _ h1 h2 =>
    refine ⟨p, rfl, ⟨vs, a1.hf.le.sqL h1⟩, q _ H1 F1 a1 x1 (h2.zlen ▸ sz p vs .l (a1.hf.le.sqL h1)) ?_⟩
    rw [← h2.zlen]
    exact walk_list.mono (fun H' e => e.sqL h1) (by rw [h2.zlen]; exact fun i H x H' hi _ y => yd_at h2 i H x H' hi y))
theorem i_tup (h : EJ S γ iter (.tuple ds)) : IF S γ tg iter ds := fun σ H F at_ R q =>
  wI_of (t := iTup S.K (wE S iter)) (fun X hX => hX.K ▸ pi_tup (pe_w hX)) (h.sz σ H F at_ _ fun v H1 F1 a1 x1 ⟨dv, sz⟩ => by
    cases dv with
    | @tup p vs _ h1 h2 =>
    refine ⟨p, rfl, ⟨vs, a1.hf.le.sqT h1⟩, q _ H1 F1 a1 x1 (h2.zlen ▸ sz p vs .t (a1.hf.le.sqT h1)) ?_⟩
    rw [← h2.zlen]
    exact walk_tup.mono (fun H' e => e.sqT h1) (by rw [h2.zlen]; exact fun i H x H' hi _ y => yd_at h2 i H x H' hi y))
theorem i_own (h : QJ S γ iter .l ds) : IX S γ tg iter ds := fun σ H F at_ R q =>
  wI_of (t := iList S.K (wE S iter)) (fun X hX => hX.K ▸ pi_list (pe_w hX)) (h.sz σ H F at_ _ fun v H1 F1 a1 x1 ⟨⟨p, vs, e1, h1, h2⟩, sz⟩ => by
    subst e1
    refine ⟨p, rfl, ⟨vs, h1⟩, q _ H1 F1 a1 x1 (h2.zlen ▸ sz p vs .l h1) ?_⟩
    rw [← h2.zlen]
    exact walk_list.mono (fun H' e => SqX.ext (k := .l) e h1) (by rw [h2.zlen]; exact fun i H x H' hi _ y => yd_at h2 i H x H' hi y))
/-- lo, .. below hi -/
def rng (lo hi : Int) : List Int := (List.range (hi - lo).toNat).map fun (k : Nat) => lo + (k : Int)
theorem rng_len (lo hi : Int) : (rng lo hi).length = (hi - lo).toNat := by unfold rng; rw [List.length_map, List.length_range]
theorem rng_get (lo hi : Int) {i : Nat} (h : i < (hi - lo).toNat) : (rng lo hi)[i]? = some (lo + i) := by
  unfold rng
  rw [List.getElem?_map, List.getElem?_range h]; rfl
def RgB (lo hi : Int) : Prop := -8388608 ≤ lo ∧ lo ≤ 8388608 ∧ -8388608 ≤ hi ∧ hi ≤ 8388608
instance (lo hi : Int) : Decidable (RgB lo hi) := by unfold RgB; infer_instance
theorem rng_walk {S : Stat} {F : Hp} {lo hi : Int} : Walk (Itr lo (hi - lo).toNat) ((rng lo hi).map PyData.int).length (fun _ => True) (YD S.K F ((rng lo hi).map PyData.int)) := by
  rw [List.length_map, rng_len]
  refine walk_range.mono (fun _ _ => trivial) fun i H x H' hi _ ⟨e1, e2⟩ => ⟨.int (lo + i), ?_, .inl ⟨e1, ?_⟩⟩
  · rw [List.getElem?_map, rng_get _ _ hi]; rfl
  · rw [e2]; exact .int _
theorem rng_sz {lo hi : Int} (h : (hi - lo).toNat ≤ 16777216) : ((rng lo hi).map PyData.int).length ≤ sizeLine := by
  rw [List.length_map, rng_len, sizeLine_eq]; exact h
theorem i_range1 {y : Int} (hg : IsGl S "range") (hm : S.mg "range" = none) (ha : EJ S γ a (.int y)) (hs : PlainE a) (hb : RgB 0 y) : IF S γ tg (.Call (.Name "range" p) [a] [] pos) ((rng 0 y).map .int) := fun σ H F at_ R q =>
  wI_of (fun X hX => pi_range1 (hX.gl hg) (hX.mgn hm) (pa_cons (pe_w hX) pa_nil (hs [] X.env)) (hs [] X.env)) (ha σ H F at_ _ fun v H1 F1 a1 x1 d1 => by
    cases d1
    obtain ⟨b1, b2, b3, b4⟩ := hb
    refine ⟨y, rfl, by omega, by omega, q _ H1 F1 a1 x1 (rng_sz (by omega)) ?_⟩
    have e : y.toNat = (y - 0).toNat := by omega
    rw [e]
    exact rng_walk.mono (fun _ _ => trivial) fun _ _ _ _ _ _ y => y)
theorem i_range2 {x y : Int} (hg : IsGl S "range") (hm : S.mg "range" = none) (ha : EJ S γ a (.int x)) (hb : EJ S γ b (.int y)) (hs : PlainE a) (hs2 : PlainE b) (hr : RgB x y) : IF S γ tg (.Call (.Name "range" p) [a, b] [] pos) ((rng x y).map .int) := fun σ H F at_ R q =>
  wI_of (fun X hX => pi_range2 (hX.gl hg) (hX.mgn hm) (pa_cons (pe_w hX) (pa_cons (pe_w hX) pa_nil (hs2 [] X.env)) (hs [b] X.env)) ((hs [b] X.env).trans (congrArg _ (hs2 [] X.env))) (hs2 [] X.env)) (ha σ H F at_ _ fun v H1 F1 a1 x1 d1 => hb σ H1 F1 a1 _ fun u H2 F2 a2 x2 d2 => by
    cases d1; cases d2
    obtain ⟨b1, b2, b3, b4⟩ := hr
    refine ⟨x, y, rfl, ⟨by omega, by omega, by omega, by omega⟩, q _ H2 F2 a2 (x1.trans x2) (rng_sz (by omega)) ?_⟩
    exact rng_walk.mono (fun _ _ => trivial) fun _ _ _ _ _ _ y => y)
end
end SM

set_option autoImplicit false
set_option Elab.async false
set_option linter.all false
set_option maxRecDepth 100000
set_option maxHeartbeats 4000000
namespace SM
open PySem PySem.Spec PyProof.Rows L2

/-! ### list comprehensions -/
def Stat.blk (S : Stat) (scope : Scope) : Stat := { S with sc := relS scope S.sc, fn := fun x => scope.names.lookup x == some .cell }
theorem IsCx.blk {S : Stat} {X : Cx} (hX : IsCx S X) (s : Shared) (H : Hp) (scope : Scope) (cl : List (Str × Addr)) (C : Addr) (fp : List Addr) : IsCx (S.blk scope) (X.blk s H scope (compEnvC scope cl C X.env) fp) where
  prog := hX.prog
  w := hX.w
  K := hX.K
  mg := hX.mg
  base := hX.base
  N := hX.N
  sc := by
    show relS scope X.env.scope = relS scope S.sc
    rw [hX.sc]
  fn := rfl
  room := hX.room
  calm := hX.calm
  code := hX.code
  xe := rfl
def wipeG (γ : Gm) : List Nat → Gm
  | [] => γ
  | v :: vs => (wipeG γ vs).set v .un
section
variable {S : Stat} {γ : Gm} {σ : L2.St} {H F : Hp}
theorem AtH.blk (scope : Scope) (h : AtH S H F) : AtH (S.blk scope) H F := ⟨h.ext, h.hf, h.f0, h.new, h.tabs⟩
theorem Own.blk (scope : Scope) {a : Addr} {d : PyData} (h : Own S H F a d) : Own (S.blk scope) H F a d := by
  cases d <;> exact h
theorem Own.unblk (scope : Scope) {a : Addr} {d : PyData} (h : Own (S.blk scope) H F a d) : Own S H F a d := by
  cases d <;> exact h
theorem At.blk (scope : Scope) (h : At S γ σ H F) : At (S.blk scope) γ σ H F where
  toAtH := h.toAtH.blk scope
  len := h.len
  sh := h.sh
  ow := fun i d e => by
    obtain ⟨a, h1, h2⟩ := h.ow i d e
    exact ⟨a, h1, h2.blk scope⟩
  apart := h.apart
theorem At.wipe (h : At S γ σ H F) : ∀ vs : List Nat, At S (wipeG γ vs) (wipe σ vs) H F
  | [] => h
  | v :: vs => (At.wipe h vs).setUn
theorem wipe_get (σ : L2.St) : ∀ (vs : List Nat) (j : Nat), (wipe σ vs)[j]? = if j ∈ vs then (if j < σ.length then some none else none) else σ[j]?
  | [], j => by simp [wipe]
  | v :: vs, j => by
    have ih := wipe_get σ vs j
    unfold wipe
    by_cases e : j = v
    · subst e
      rw [if_pos List.mem_cons_self]
      by_cases hl : j < σ.length
      · rw [if_pos hl, List.getElem?_set_self (by rw [wipe_length]; exact hl)]
      · rw [if_neg hl, List.getElem?_eq_none (by rw [List.length_set, wipe_length]; omega)]
    · rw [get_set_ne e, ih]
      by_cases hm : j ∈ vs
      · rw [if_pos hm, if_pos (List.mem_cons_of_mem _ hm)]
      · rw [if_neg hm, if_neg (fun z => by rcases List.mem_cons.mp z with z | z; exact e z; exact hm z)]
theorem wipe_ext {σ1 σ2 : L2.St} {vs is : List Nat} (hl : σ1.length = (wipe σ2 vs).length) (h : ∀ j, j ∉ is → σ1[j]? = (wipe σ2 vs)[j]?) (hs : ∀ i ∈ is, i ∈ vs) : wipe σ1 vs = wipe σ2 vs := by
  apply List.ext_getElem?
  intro j
  rw [wipe_length] at hl
  rw [wipe_get, wipe_get]
  by_cases hm : j ∈ vs
  · rw [if_pos hm, if_pos hm, hl]
  · rw [if_neg hm, if_neg hm, h j fun z => hm (hs j z), wipe_get, if_neg hm]
end
/-- tests behind a for -/
def wTs (S : Stat) (ifs : List Expr) : TT := fun σ H Q => ∀ X, IsCx S X → ∃ t : TT, PTs X ifs t ∧ t σ H Q
def TsJ (S : Stat) (γ : Gm) (ifs : List Expr) (k : Bool) : Prop :=
  (ifs = [] ∧ k = true) ∨ ∃ c, ifs = [c] ∧ TJ S γ c k
/-- what a turn of a comprehension gives for the item d -/
def CB (S : Stat) (γ : Gm) (tg : Expr) (ifs : List Expr) (elt : Expr) (vs : List Nat) (d : PyData) (o : Option PyData) : Prop :=
  ∃ γ2 is k, GJ S γ tg d γ2 is ∧ (∀ i ∈ is, i ∈ vs) ∧ TsJ S γ2 ifs k ∧ (k = false → o = none) ∧ (k = true → ∃ d', o = some d' ∧ EJ S γ2 elt d')
def tTs (S : Stat) : List Expr → TT
  | [] => tYes
  | [c] => wT S c
  | _ => fun _ _ _ => False
section
variable {S : Stat} {γ : Gm} {tg iter elt : Expr} {ifs : List Expr} {scope : Scope} {own : List (Str × Nat)} {pos : Pos} {items : List PyData} {outs : List (Option PyData)} {vs : List Nat}
theorem pts_w {X : Cx} (hX : IsCx S X) (hl : ifs.length ≤ 1) : PTs X ifs (tTs S ifs) := by
  match ifs, hl with
  | [], _ => exact pts_nil
  | [c], _ => exact pts_one (pt_w hX)
theorem lc_read (hi : IX S γ tg iter items) (hb : ∀ (i : Nat) (d : PyData), items[i]? = some d → ∃ o, outs[i]? = some o ∧ CB (S.blk scope) (wipeG γ vs) tg ifs elt vs d o) (hl : outs.length = items.length) {σ : L2.St} {H F : Hp} (at_ : At S γ σ H F) {Q : VK}
    (q : ∀ v H' F', At S γ σ H' F' → Ex2 H F H' F' → (∃ a us, v = .ref a ∧ H a = none ∧ F' a = none ∧ H' a = some (.lst us) ∧ DpAll S.K F' us (outs.filterMap id)) → Q v H') :
    tLc (wI S tg iter) (wG (S.blk scope) tg) (tTs (S.blk scope) ifs) (wE (S.blk scope) elt) vs σ H Q := by
  refine hi σ H F at_ _ fun J H1 F1 a1 x1 hz w D hD => ?_
  refine lc_it (n := items.length) (G := Ext H1) w (Pv := fun i H2 => ∃ F2 us, At S γ σ H2 F2 ∧ Loose γ σ D ∧ F2 D = none ∧ S.B D = none ∧ H2 D = some (.lst us) ∧ DpAll S.K F2 us ((outs.take i).filterMap id) ∧ us.length ≤ i ∧ Ex2 H1 F1 H2 F2) ?_ ?_ ?_ ?_
  · refine ⟨F1, [], a1.ex (ex_newH hD) (a1.hf.newH hD), Loose.new a1 hD, a1.hf.fnone hD, a1.ext.back hD, upd_same, ?_, Nat.le_refl _, ex_newH hD⟩
    rw [List.take_zero]; exact .nil
  · rintro i H2 _ ⟨F2, us, _, _, _, _, _, _, _, x2⟩
    exact x2.h
  · rintro i x H2 H3 hi ⟨F2, us, a2, lo, fD, bD, hD2, du, hu, x2⟩ ⟨d, hd, hy⟩
    obtain ⟨o, ho, γ2, is, k, g, hsub, ts, kf, kt⟩ := hb i d hd
    -- the item's heap
    obtain ⟨F3, a3, x3, dx⟩ : ∃ F3, At S γ σ H3 F3 ∧ Ex2 H2 F2 H3 F3 ∧ Dp S.K F3 x d := by
      rcases hy with ⟨e1, dx⟩ | ⟨T, xs, ds, hT, e1, e2, e3, dx⟩
      · subst e1
        exact ⟨F2, a2, Ex2.refl _ _, dx.zmono x2.f⟩
      · subst e1; subst e2; subst e3
        have x4 : Ex2 H2 F2 (upd H2 T (.tup xs)) (upd F2 T (.tup xs)) := ex_new a2.hf hT
        exact ⟨_, a2.ex x4 (a2.hf.new hT fun _ z => by cases z), x4, .tup (SqT.of upd_same) (dx.zmono (x2.trans x4).f)⟩
    have keepD : ∀ {H4 F4 : Hp}, Ex2 H3 F3 H4 F4 → H4 D = some (.lst us) := fun {H4 F4} x4 => (x3.trans x4).h.keep D _ hD2 fun _ z => by cases z
    have fD4 : ∀ {H4 F4 : Hp}, Ex2 H3 F3 H4 F4 → F4 D = none := fun {H4 F4} x4 => by
      cases z : F4 D with
      | none => rfl
      | some u => have := (x3.trans x4).n D u z fD; rw [hD2] at this; cases this
    have tk : (outs.take (i + 1)).filterMap id = (outs.take i).filterMap id ++ o.toList := by
      rw [List.take_add_one, ho, List.filterMap_append]
      cases o <;> rfl
    refine g _ H3 F3 x ((a3.wipe vs).blk scope) dx _ fun σ2 b2 l2 n2 => ⟨wipe_ext l2 n2 hsub, ?_⟩
    have fin : ∀ {k' : Bool}, k' = k → ∀ {H4 F4 : Hp}, At (S.blk scope) γ2 σ2 H4 F4 → Ex2 H3 F3 H4 F4 → if k' = true then wE (S.blk scope) elt σ2 H4 fun y H5 => ∃ acc, H5 D = some (.lst acc) ∧ acc.length < sizeLine ∧ (∃ F2 us, At S γ σ (upd H5 D (.lst (acc ++ [y]))) F2 ∧ Loose γ σ D ∧ F2 D = none ∧ S.B D = none ∧ (upd H5 D (.lst (acc ++ [y]))) D = some (.lst us) ∧ DpAll S.K F2 us ((outs.take (i + 1)).filterMap id) ∧ us.length ≤ i + 1 ∧ Ex2 H1 F1 (upd H5 D (.lst (acc ++ [y]))) F2)
        else (∃ F2 us, At S γ σ H4 F2 ∧ Loose γ σ D ∧ F2 D = none ∧ S.B D = none ∧ H4 D = some (.lst us) ∧ DpAll S.K F2 us ((outs.take (i + 1)).filterMap id) ∧ us.length ≤ i + 1 ∧ Ex2 H1 F1 H4 F2) := by
      intro k' ek H4 F4 b4 x4
      subst ek
      cases k' with
      | true =>
        rw [if_pos rfl]
        obtain ⟨d', eo, ed⟩ := kt rfl
        refine ed σ2 H4 F4 b4 _ fun y H5 F5 b5 x5 dy => ⟨us, keepD (x4.trans x5), Nat.lt_of_le_of_lt hu (Nat.lt_of_lt_of_le hi hz), F5, us ++ [y], ?_, lo, fD4 (x4.trans x5), bD, upd_same, ?_, ?_, ?_⟩
        · refine (a3.ex (x4.trans x5) b5.hf).mut lo (fD4 (x4.trans x5)) bD fun ps z => ?_
          rw [keepD (x4.trans x5)] at z; cases z
        · rw [tk, eo]
          exact (du.zmono ((x3.trans x4).trans x5).f).zapp (.cons dy .nil)
        · rw [List.length_append]; exact Nat.succ_le_succ hu
        · have x6 := ((x2.trans x3).trans x4).trans x5
          exact ⟨x6.h.mut hD, x6.f, x6.n⟩
      | false =>
        rw [if_neg Bool.false_ne_true]
        refine ⟨F4, us, a3.ex x4 b4.hf, lo, fD4 x4, bD, keepD x4, ?_, Nat.le_succ_of_le hu, (x2.trans x3).trans x4⟩
        rw [tk, kf rfl]
        show DpAll S.K F4 us (_ ++ [])
        rw [List.append_nil]
        exact du.zmono (x3.trans x4).f
    rcases ts with ⟨e1, e2⟩ | ⟨c, e1, tc⟩
    · subst e1
      exact fin e2.symm b2 (Ex2.refl _ _)
    · subst e1
      exact tc σ2 H3 F3 b2 _ fun H4 F4 b4 x4 => fin rfl b4 x4
  · rintro H2 ⟨F2, us, a2, lo, fD, bD, hD2, du, hu, x2⟩
    rw [← hl, List.take_length] at du
    exact q _ H2 F2 a2 (x1.trans x2) ⟨D, us, rfl, x1.h.back hD, fD, hD2, du⟩
/-- [elt for tg in iter if ..] -/
theorem f_lc0 (hi : IX S γ tg iter items) (hb : ∀ (i : Nat) (d : PyData), items[i]? = some d → ∃ o, outs[i]? = some o ∧ CB (S.blk scope) (wipeG γ (own.map (·.2))) tg ifs elt (own.map (·.2)) d o) (hl : outs.length = items.length)
    (hN : S.N.Nodup) (ok : blkC S.N S.sc scope own = true) (h1 : ifs.length ≤ 1) (hs : ∀ (X : Cx) x, foldedSetIterable iter X.env x = pure x) : FJ S γ (.ListComp elt [⟨tg, iter, ifs, 0⟩] scope pos) (outs.filterMap id) := fun σ H F at_ Q q =>
  wE_of (fun X hX => pe_lc hX.calm (by rw [hX.N]; exact hN) (pi_w hX) (by rw [hX.N, hX.sc]; exact blkOk_by ok) (fun s H C cl fp => pg_w (hX.blk s H scope cl C fp)) (fun s H C cl fp => pts_w (hX.blk s H scope cl C fp) h1) (fun s H C cl fp => pe_w (hX.blk s H scope cl C fp)) (hs X))
    (lc_read hi hb hl at_ q)

/-! typed -/
variable {α β : Type} {enc : α → PyData} {encB : β → PyData} {xs : List α} {ys : List β}
def compM (f : α → Option (Option β)) : List α → Option (List β)
  | [] => some []
  | x :: xs => (f x).bind fun o => (compM f xs).bind fun ys => some (match o with | some y => y :: ys | none => ys)
theorem compM_get {f : α → Option (Option β)} : ∀ {xs : List α} {ys : List β}, compM f xs = some ys → ∃ rs : List (Option β), rs.length = xs.length ∧ (∀ (i : Nat) (x : α), xs[i]? = some x → ∃ r, rs[i]? = some r ∧ f x = some r) ∧ ys = rs.filterMap id
  | [], ys, h => ⟨[], rfl, fun i x e => by simp at e, (Option.some.inj h).symm⟩
  | x :: xs, ys, h => by
    unfold compM at h
    obtain ⟨o, h1, h⟩ := Option.bind_eq_some_iff.mp h
    obtain ⟨zs, h2, h⟩ := Option.bind_eq_some_iff.mp h
    obtain ⟨rs, l, g, e⟩ := compM_get h2
    refine ⟨o :: rs, by rw [List.length_cons, List.length_cons, l], fun i y hy => ?_, ?_⟩
    · cases i with
      | zero => exact ⟨o, rfl, by rw [show y = x from (Option.some.inj hy).symm]; exact h1⟩
      | succ i => exact g i y hy
    · rw [← Option.some.inj h]
      cases o with
      | none => show zs = rs.filterMap id; exact e
      | some y => show y :: zs = y :: rs.filterMap id; rw [e]
/-- what a turn gives for one item, where its value is there -/
def CBO (S : Stat) (γ : Gm) (tg : Expr) (ifs : List Expr) (elt : Expr) (vs : List Nat) (d : PyData) (encB : β → PyData) (o : Option (Option β)) : Prop := ∀ r, o = some r → CB S γ tg ifs elt vs d (r.map encB)
theorem fm_map (encB : β → PyData) : ∀ rs : List (Option β), (rs.map fun r => r.map encB).filterMap id = (rs.filterMap id).map encB
  | [] => rfl
  | none :: rs => fm_map encB rs
  | some y :: rs => congrArg (encB y :: ·) (fm_map encB rs)
theorem f_lc {f : α → Option (Option β)} (hi : IX S γ tg iter (xs.map enc)) (hb : ∀ x ∈ xs, CBO (S.blk scope) (wipeG γ (own.map (·.2))) tg ifs elt (own.map (·.2)) (enc x) encB (f x)) (hr : compM f xs = some ys)
    (hN : S.N.Nodup) (ok : blkC S.N S.sc scope own = true) (h1 : ifs.length ≤ 1) (hs : ∀ (X : Cx) x, foldedSetIterable iter X.env x = pure x) : FJ S γ (.ListComp elt [⟨tg, iter, ifs, 0⟩] scope pos) (ys.map encB) := by
  obtain ⟨rs, l, g, e⟩ := compM_get hr
  have := f_lc0 (outs := rs.map fun r => r.map encB) (pos := pos) hi (fun i d hd => by
    rw [List.getElem?_map] at hd
    cases hx : xs[i]? with
    | none => rw [hx] at hd; cases hd
    | some x =>
      rw [hx] at hd
      obtain rfl : enc x = d := Option.some.inj hd
      obtain ⟨r, h2, h3⟩ := g i x hx
      exact ⟨r.map encB, by rw [List.getElem?_map, h2]; rfl, hb x (List.mem_of_getElem? hx) r h3⟩) (by rw [List.length_map, List.length_map, l]) hN ok h1 hs
  rw [fm_map, ← e] at this
  exact this
theorem compM_tot {p : α → Bool} {g : α → β} : ∀ xs : List α, compM (fun x => some (if p x = true then some (g x) else none)) xs = some ((xs.filter p).map g)
  | [] => rfl
  | x :: xs => by
    unfold compM
    rw [compM_tot xs]
    cases h : p x with
    | true => rw [List.filter_cons_of_pos h]; rfl
    | false => rw [List.filter_cons_of_neg (by rw [h]; exact Bool.false_ne_true)]; rfl
theorem compM_map {g : α → β} : ∀ xs : List α, compM (fun x => some (some (g x))) xs = some (xs.map g)
  | [] => rfl
  | x :: xs => by unfold compM; rw [compM_map xs]; rfl
end
/-! a turn, by its parts -/
section
variable {S : Stat} {γ γ2 : Gm} {tg elt c : Expr} {vs is : List Nat} {d : PyData} {β τ : Type} {encB : β → PyData}
theorem EJ.of {e : Expr} {d d' : PyData} (h : EJ S γ e d) (e1 : d = d') : EJ S γ e d' := e1 ▸ h
/-- the value where it is there -/
def EO (S : Stat) (γ : Gm) (e : Expr) (enc : β → PyData) (o : Option β) : Prop := ∀ x, o = some x → EJ S γ e (enc x)
theorem eo_some {e : Expr} {x : β} (h : EJ S γ e (encB x)) : EO S γ e encB (some x) := fun y hy => by cases hy; exact h
theorem eo_bind {e : Expr} {o : Option τ} {f : τ → Option β} (h : ∀ t, o = some t → EO S γ e encB (f t)) : EO S γ e encB (o.bind f) := fun x hx => by
  obtain ⟨t, h1, h2⟩ := Option.bind_eq_some_iff.mp hx
  exact h t h1 x h2
theorem EO.elim {e : Expr} {o : Option β} {x : β} (h : EO S γ e encB o) (hx : o = some x) : EJ S γ e (encB x) := h x hx
theorem eo_if {a b : Expr} {pos : Pos} {k : Bool} {oa ob : Option β} (hc : TJ S γ c k) (ha : k = true → EO S γ a encB oa) (hb : k = false → EO S γ b encB ob) : EO S γ (.IfExp c a b pos) encB (if k = true then oa else ob) := fun x hx => by
  cases k with
  | true =>
    have := e_if (enc := encB) (x := x) (y := x) (pos := pos) hc (fun _ => ha rfl x (by simpa using hx)) (fun z => by cases z) (b := b)
    rw [if_pos rfl] at this; exact this
  | false =>
    have := e_if (enc := encB) (x := x) (y := x) (pos := pos) hc (fun z => by cases z) (fun _ => hb rfl x (by simpa using hx)) (a := a)
    rw [if_neg Bool.false_ne_true] at this; exact this
theorem cb0 {o : Option β} (g : GJ S γ tg d γ2 is) (hs : ∀ i ∈ is, i ∈ vs) (h : EO S γ2 elt encB o) : CBO S γ tg [] elt vs d encB (o.bind fun y => some (some y)) := fun r hr => by
  obtain ⟨y, h1, h2⟩ := Option.bind_eq_some_iff.mp hr
  cases h2
  exact ⟨γ2, is, true, g, hs, .inl ⟨rfl, rfl⟩, (fun z => by cases z), fun _ => ⟨_, rfl, h y h1⟩⟩
theorem cb0T {y : β} (g : GJ S γ tg d γ2 is) (hs : ∀ i ∈ is, i ∈ vs) (h : EJ S γ2 elt (encB y)) : CBO S γ tg [] elt vs d encB (some (some y)) := fun r hr => by
  cases hr
  exact ⟨γ2, is, true, g, hs, .inl ⟨rfl, rfl⟩, (fun z => by cases z), fun _ => ⟨_, rfl, h⟩⟩
theorem cb_bind {ifs : List Expr} {o : Option τ} {f : τ → Option (Option β)} (h : ∀ t, o = some t → CBO S γ tg ifs elt vs d encB (f t)) : CBO S γ tg ifs elt vs d encB (o.bind f) := fun r hr => by
  obtain ⟨t, h1, h2⟩ := Option.bind_eq_some_iff.mp hr
  exact h t h1 r h2
theorem cb1 {o : Option β} {k : Bool} (g : GJ S γ tg d γ2 is) (hs : ∀ i ∈ is, i ∈ vs) (hc : TJ S γ2 c k) (h : k = true → EO S γ2 elt encB o) : CBO S γ tg [c] elt vs d encB (if k = true then o.bind fun y => some (some y) else some none) := fun r hr => by
  cases k with
  | true =>
    rw [if_pos rfl] at hr
    obtain ⟨y, h1, h2⟩ := Option.bind_eq_some_iff.mp hr
    cases h2
    exact ⟨γ2, is, true, g, hs, .inr ⟨c, rfl, hc⟩, (fun z => by cases z), fun _ => ⟨_, rfl, h rfl y h1⟩⟩
  | false =>
    rw [if_neg Bool.false_ne_true] at hr
    cases hr
    exact ⟨γ2, is, false, g, hs, .inr ⟨c, rfl, hc⟩, fun _ => rfl, (fun z => by cases z)⟩
theorem cb1T {y : β} {k : Bool} (g : GJ S γ tg d γ2 is) (hs : ∀ i ∈ is, i ∈ vs) (hc : TJ S γ2 c k) (h : k = true → EJ S γ2 elt (encB y)) : CBO S γ tg [c] elt vs d encB (some (if k = true then some y else none)) := fun r hr => by
  cases hr
  cases k with
  | true => exact ⟨γ2, is, true, g, hs, .inr ⟨c, rfl, hc⟩, (fun z => by cases z), fun _ => ⟨_, rfl, h rfl⟩⟩
  | false => exact ⟨γ2, is, false, g, hs, .inr ⟨c, rfl, hc⟩, fun _ => rfl, (fun z => by cases z)⟩
end
end SM

set_option autoImplicit false
set_option Elab.async false
set_option linter.all false
set_option maxRecDepth 100000
set_option maxHeartbeats 4000000
namespace SM
open PySem PySem.Spec PyProof.Rows L2

/-! ### statements -/
structure Post where
  nx : Gm → Prop
  rt : PyData → Prop
def SJ (S : Stat) (γ : Gm) (ss : List Stmt) (p : Post) : Prop :=
  ∀ σ H F, At S γ σ H F → ∀ D : Ends, (∀ γ' σ' H' F', p.nx γ' → At S γ' σ' H' F' → Le F F' → D.nx σ' H') → (∀ d v H' F', p.rt d → AtH S H' F' → Le F F' → Dp S.K F' v d → D.rt v H') → wS S ss D σ H
def SJ1 (S : Stat) (γ : Gm) (st : Stmt) (p : Post) : Prop :=
  ∀ σ H F, At S γ σ H F → ∀ D : Ends, (∀ γ' σ' H' F', p.nx γ' → At S γ' σ' H' F' → Le F F' → D.nx σ' H') → (∀ d v H' F', p.rt d → AtH S H' F' → Le F F' → Dp S.K F' v d → D.rt v H') → wS1 S st D σ H
section
variable {S : Stat} {γ γ' : Gm} {st : Stmt} {ss rest : List Stmt} {p : Post} {e a b c tg iter : Expr} {d : PyData} {ds : List PyData} {pos px : Pos}
theorem s_nil (h : p.nx γ) : SJ S γ [] p := fun σ H F at_ D k1 k2 => wS_of (fun X hX => pss_nil) (k1 γ σ H F h at_ (Le.refl F))
theorem s_cons {N : Gm → Prop} (h1 : SJ1 S γ st ⟨N, p.rt⟩) (h2 : ∀ γ', N γ' → SJ S γ' rest p) : SJ S γ (st :: rest) p := fun σ H F at_ D k1 k2 =>
  wS_of (fun X hX => pss_cons (ps_w hX) (pss_w hX)) (h1 σ H F at_ _ (fun γ' σ' H' F' hn a1 l1 => h2 γ' hn σ' H' F' a1 D (fun γ2 σ2 H2 F2 hn2 a2 l2 => k1 γ2 σ2 H2 F2 hn2 a2 (l1.trans l2)) fun d v H2 F2 hr a2 l2 dv => k2 d v H2 F2 hr a2 (l1.trans l2) dv) k2)
theorem s_weak {γ2 : Gm} (w : GLe γ γ2) (h : SJ S γ2 ss p) : SJ S γ ss p := fun σ H F at_ => h σ H F (at_.weak w)
/-- x = e -/
theorem s1_set {x : Str} {i : Nat} (n : NmOk S x i) (h : EJ S γ e d) (hs : ∀ X, IsCx S X → swapsWith e (some (.Name x px)) pos.line X.env = pure false) (hp : p.nx (γ.set i (.sh d))) : SJ1 S γ (.Assign [.Name x px] e pos) p := fun σ H F at_ D k1 k2 =>
  wS1_of (fun X hX => ps_set (i := i) (by rw [hX.N]; exact n.nd) (by rw [hX.N]; exact n.at_) (hX.loc n.loc) (pe_w hX) (hs X hX) (hX.fnl n.fn)) (h σ H F at_ _ fun v H1 F1 a1 x1 dv => k1 _ _ H1 F1 hp (a1.setSh dv) x1.f)
theorem s1_setF {x : Str} {i : Nat} (n : NmOk S x i) (h : FJ S γ e ds) (hs : ∀ X, IsCx S X → swapsWith e (some (.Name x px)) pos.line X.env = pure false) (hp : p.nx (γ.set i (.ow (.list ds)))) : SJ1 S γ (.Assign [.Name x px] e pos) p := fun σ H F at_ D k1 k2 =>
  wS1_of (fun X hX => ps_set (i := i) (by rw [hX.N]; exact n.nd) (by rw [hX.N]; exact n.at_) (hX.loc n.loc) (pe_w hX) (hs X hX) (hX.fnl n.fn)) (h σ H F at_ _ fun v H1 F1 a1 x1 ⟨a, vs, e1, h1, h2, h3, h4⟩ => by
    subst e1
    exact k1 _ _ H1 F1 hp (a1.setOw ⟨at_.ext.back h1, h2, vs, h3, h4⟩ fun j e hj z => Loose.new at_ h1 j e hj z) x1.f)
theorem sw_no {elt : Expr} {gs : List Comprehension} {scope : Scope} {y : Str} {l : Nat} {pl : Pos} {X : Cx} (hX : IsCx S X) (h : S.sc.names.lookup y ≠ some .local) : swapsWith (.ListComp elt gs scope pl) (some (.Name y px)) l X.env = pure false := by
  have hk : (X.env.kindOf y == some NameKind.local) = false := by
    show (X.env.scope.names.lookup y == some NameKind.local) = false
    rw [hX.sc]
    exact beq_eq_false_iff_ne.mpr h
  unfold swapsWith
  simp only [hk, Bool.and_false, Bool.false_and]
  try rfl
/-- x = [..] where the new list is kept on the machine -/
theorem s1_setLc {x : Str} {i : Nat} {elt : Expr} {ifs : List Expr} {scope : Scope} {own : List (Str × Nat)} {pl : Pos} {items : List PyData} {outs : List (Option PyData)} (n : NmOk S x i) (hy : S.sc.names.lookup x = some .local)
    (hi : IX S γ tg iter items) (hb : ∀ (i : Nat) (d : PyData), items[i]? = some d → ∃ o, outs[i]? = some o ∧ CB (S.blk scope) (wipeG γ (own.map (·.2))) tg ifs elt (own.map (·.2)) d o) (hl : outs.length = items.length)
    (ok : blkC S.N S.sc scope own = true) (h1 : ifs.length ≤ 1) (hs : ∀ (X : Cx) x, foldedSetIterable iter X.env x = pure x) (hli : (px.line == pl.line) = true) (hk : S.sc.kind = .function)
    (hsn : (scope.names.any fun (n, k) => n == x && (k == .local || k == .cell)) = false) (hp : p.nx (γ.set i (.ow (.list (outs.filterMap id))))) : SJ1 S γ (.Assign [.Name x px] (.ListComp elt [⟨tg, iter, ifs, 0⟩] scope pl) pos) p := fun σ H F at_ D k1 k2 =>
  wS1_of (fun X hX => ps_setLc (i := i) hX.calm (by rw [hX.N]; exact n.nd) (by rw [hX.N]; exact n.at_) (by rw [hX.sc]; exact hy) (sw_true (by rw [hX.sc]; exact hk) (by rw [hX.sc]; exact hy) hli hsn) (pi_w hX) (by rw [hX.N, hX.sc]; exact blkOk_by ok)
    (fun s H C cl fp => pg_w (hX.blk s H scope cl C fp)) (fun s H C cl fp => pts_w (hX.blk s H scope cl C fp) h1) (fun s H C cl fp => pe_w (hX.blk s H scope cl C fp)) (hs X))
    (lc_read hi hb hl at_ fun v H1 F1 a1 x1 ⟨a, us, e1, h1, h2, h3, h4⟩ => by
      subst e1
      exact k1 _ _ H1 F1 hp (a1.setOw ⟨at_.ext.back h1, h2, us, h3, h4⟩ fun j e hj z => Loose.new at_ h1 j e hj z) x1.f)
/-- any target -/
theorem s1_asg {is : List Nat} (h : EJ S γ e d) (g : GJ S γ tg d γ' is) (hs : ∀ X : Cx, swapsWithSole [tg] e pos.line X.env = pure false) (hw : ∀ X : Cx, swappedStores [tg] e X.env = pure none) (h1 : ∀ X : Cx, (assignEach [tg] X.env).map (·.2) = [assign tg X.env]) (hp : p.nx γ') : SJ1 S γ (.Assign [tg] e pos) p := fun σ H F at_ D k1 k2 =>
  wS1_of (fun X hX => ps_asg (pe_w hX) (pg_w hX) (hs X) (hw X) (h1 X)) (h σ H F at_ _ fun v H1 F1 a1 x1 dv => g σ H1 F1 v a1 dv _ fun σ' a2 _ _ => k1 _ σ' H1 F1 hp a2 x1.f)
/-- x = y, y an owned thing that goes over -/
theorem s1_mv {x y : Str} {i j : Nat} {py : Pos} (n : NmOk S x i) (hN : S.N[j]? = some y) (hv : Vis S.sc y) (hg : γ[j]? = some (.ow d)) (hd : (y == ("__debug__" : Str)) = false) (hcd : (y == ("__classdict__" : Str)) = false)
    (hp : p.nx ((γ.set j .un).set i (.ow d))) : SJ1 S γ (.Assign [.Name x px] (.Name y py) pos) p := fun σ H F at_ D k1 k2 => by
  obtain ⟨a, h1, h2⟩ := at_.ow j d hg
  refine wS1_of (fun X hX => ps_set (i := i) (by rw [hX.N]; exact n.nd) (by rw [hX.N]; exact n.at_) (hX.loc n.loc) (pe_var (i := j) (by rw [hX.N]; exact hN) (by rw [hX.sc]; exact hv) hd hcd) rfl (hX.fnl n.fn)) ⟨.ref a, h1, ?_⟩
  have a2 : At S (γ.set j .un) σ H F := by
    have := at_.setUn (i := j) (x := some (.ref a))
    have e : σ.set j (some (.ref a)) = σ := by
      apply List.ext_getElem?
      intro k
      by_cases hk : k = j
      · subst hk
        obtain ⟨hl, _⟩ := List.getElem?_eq_some_iff.mp h1
        rw [List.getElem?_set_self hl, h1]
      · rw [get_set_ne hk]
    rw [e] at this; exact this
  refine k1 _ _ H F hp (a2.setOw h2 fun k e hk z => ?_) (Le.refl F)
  rcases set_cases hk with ⟨_, e1, _⟩ | ⟨hne, hk⟩
  · cases e1
  · exact hne (at_.apart k j e d a hk hg z h1)
/-- an owned list is shared from now on -/
theorem At.share {σ : L2.St} {H F : Hp} {j : Nat} (h : At S γ σ H F) (hg : γ[j]? = some (.ow (.list ds))) : ∃ F', At S (γ.set j (.sh (.list ds))) σ H F' ∧ Le F F' := by
  obtain ⟨a, h1, hB, hF, vs, h2, h3⟩ := h.ow j _ hg
  have lo : ∀ (k : Nat) (e : PyData), (γ.set j .un)[k]? = some (.ow e) → σ[k]? ≠ some (some (.ref a)) := fun k e hk z => by
    rcases set_cases hk with ⟨_, e1, _⟩ | ⟨hne, hk⟩
    · cases e1
    · exact hne (h.apart k j e _ a hk hg z h1)
  have hf : HF H (upd F a (.lst vs)) := h.hf.share h2 fun _ z => by cases z
  have le : Le F (upd F a (.lst vs)) := Le.new hF
  refine ⟨upd F a (.lst vs), ⟨⟨h.ext, hf, h.f0.trans le, fun b o e n => ?_, h.tabs⟩, by rw [List.length_set]; exact h.len, fun k e hk => ?_, fun k e hk => ?_, fun k l e f b hk hl x y => ?_⟩, le⟩
  · by_cases hb : b = a
    · subst hb; exact hB
    · rw [upd_ne hb] at e; exact h.new b o e n
  · rcases set_cases hk with ⟨rfl, e1, _⟩ | ⟨hne, hk⟩
    · cases e1
      exact ⟨.ref a, h1, .lst (SqL.of upd_same) (h3.zmono le)⟩
    · obtain ⟨v, g1, g2⟩ := h.sh k e hk
      exact ⟨v, g1, g2.zmono le⟩
  · rcases set_cases hk with ⟨rfl, e1, _⟩ | ⟨hne, hk⟩
    · cases e1
    · obtain ⟨b, g1, g2⟩ := h.ow k e hk
      refine ⟨b, g1, g2.keep (fun _ z => z) le ?_⟩
      rw [upd_ne (fun z => hne (h.apart k j e _ a hk hg (by rw [g1, z]) h1))]
      exact g2.fnone
  · rcases set_cases hk with ⟨rfl, e1, _⟩ | ⟨_, hk⟩
    · cases e1
    · rcases set_cases hl with ⟨rfl, e1, _⟩ | ⟨_, hl⟩
      · cases e1
      · exact h.apart k l e f b hk hl x y
theorem s_share {j : Nat} (hg : γ[j]? = some (.ow (.list ds))) (h : SJ S (γ.set j (.sh (.list ds))) ss p) : SJ S γ ss p := fun σ H F at_ D k1 k2 => by
  obtain ⟨F', a1, le⟩ := at_.share hg
  exact h σ H F' a1 D (fun γ' σ' H' F2 hn a2 l2 => k1 γ' σ' H' F2 hn a2 (le.trans l2)) fun d v H' F2 hr a2 l2 dv => k2 d v H' F2 hr a2 (le.trans l2) dv
theorem s1_ret (h : EJ S γ e d) (hp : p.rt d) : SJ1 S γ (.Return (some e) pos) p := fun σ H F at_ D k1 k2 =>
  wS1_of (fun X hX => ps_ret (pe_w hX)) (h σ H F at_ _ fun v H1 F1 a1 x1 dv => k2 d v H1 F1 hp a1.toAtH x1.f dv)
theorem s1_retN (hp : p.rt .none) : SJ1 S γ (.Return none pos) p := fun σ H F at_ D k1 k2 =>
  wS1_of (fun X hX => ps_retN) (k2 .none .non H F hp at_.toAtH (Le.refl F) .non)
theorem s1_pass (hp : p.nx γ) : SJ1 S γ (.Pass pos) p := fun σ H F at_ D k1 k2 => wS1_of (fun X hX => ps_pass) (k1 γ σ H F hp at_ (Le.refl F))
theorem s1_expr (h : EJ S γ e d) (hs : ∀ X : Cx, swapsWith e none pos.line X.env = pure false) (hp : p.nx γ) : SJ1 S γ (.Expr e pos) p := fun σ H F at_ D k1 k2 =>
  wS1_of (fun X hX => ps_expr (pe_w hX) (hs X)) (h σ H F at_ _ fun v H1 F1 a1 x1 dv => k1 γ σ H1 F1 hp a1 x1.f)
theorem s1_if {sa sb : List Stmt} {k : Bool} (hc : TJ S γ c k) (ha : k = true → SJ S γ sa p) (hb : k = false → SJ S γ sb p) : SJ1 S γ (.If c sa sb pos) p := fun σ H F at_ D k1 k2 =>
  wS1_of (fun X hX => ps_if (pt_w hX) (pss_w hX) (pss_w hX)) (hc σ H F at_ _ fun H1 F1 a1 x1 => by
    cases k with
    | true => exact iteT (ha rfl σ H1 F1 a1 D (fun γ' σ' H' F' hn a2 l2 => k1 γ' σ' H' F' hn a2 (x1.f.trans l2)) fun d v H' F' hr a2 l2 dv => k2 d v H' F' hr a2 (x1.f.trans l2) dv)
    | false => exact iteF (hb rfl σ H1 F1 a1 D (fun γ' σ' H' F' hn a2 l2 => k1 γ' σ' H' F' hn a2 (x1.f.trans l2)) fun d v H' F' hr a2 l2 dv => k2 d v H' F' hr a2 (x1.f.trans l2) dv))
/-- x.append(e) -/
theorem At.owSet {σ : L2.St} {H F : Hp} {j : Nat} {a : Addr} {vs : List V} {ds' : List PyData} (h : At S γ σ H F) (hg : γ[j]? = some (.ow (.list ds))) (h1 : σ[j]? = some (some (.ref a))) (dv : DpAll S.K F vs ds') : At S (γ.set j (.ow (.list ds'))) σ (upd H a (.lst vs)) F := by
  obtain ⟨b, e1, hB, hF, us, h2, h3⟩ := h.ow j _ hg
  rw [h1] at e1; cases e1
  have e : σ.set j (some (.ref a)) = σ := by
    apply List.ext_getElem?
    intro k
    by_cases hk : k = j
    · subst hk
      obtain ⟨hl, _⟩ := List.getElem?_eq_some_iff.mp h1
      rw [List.getElem?_set_self hl, h1]
    · rw [get_set_ne hk]
  have a2 : At S (γ.set j .un) σ H F := by
    have := h.setUn (i := j) (x := some (.ref a))
    rw [e] at this; exact this
  have lo : Loose (γ.set j .un) σ a := fun k f hk z => by
    rcases set_cases hk with ⟨_, e1, _⟩ | ⟨hne, hk⟩
    · cases e1
    · exact hne (h.apart k j f _ a hk hg z h1)
  have a3 := (a2.mut lo hF hB (o := .lst vs) fun ps z => by rw [h2] at z; cases z).setOw (i := j) (d := .list ds') ⟨hB, hF, vs, upd_same, dv⟩ lo
  have e2 : (γ.set j .un).set j (.ow (.list ds')) = γ.set j (.ow (.list ds')) := List.set_set ..
  rw [e, e2] at a3
  exact a3
theorem s1_app {x : Str} {j : Nat} {pa pc pn : Pos} (hN : S.N[j]? = some x) (hv : Vis S.sc x) (hg : γ[j]? = some (.ow (.list ds))) (h : EJ S γ e d) (hz : ds.length < sizeLine) (hs : PlainE e) (hd : (x == ("__debug__" : Str)) = false) (hcd : (x == ("__classdict__" : Str)) = false)
    (hba : ∀ X : Cx, attributeBase (.Name x pn) "append" X.env (eval (.Name x pn) X.env) = eval (.Name x pn) X.env) (hli : (pa.endLine == pc.line) = true) (hp : p.nx (γ.set j (.ow (.list (ds ++ [d]))))) : SJ1 S γ (.Expr (.Call (.Attribute (.Name x pn) "append" pa) [e] [] pc) pos) p := fun σ H F at_ D k1 k2 => by
  obtain ⟨a, h1, hB, hF, vs, h2, h3⟩ := at_.ow j _ hg
  refine wS1_of (t := tDrop (tBM S.K "list" rAppend (tVar j) (tCons (wE S e) tNil))) (fun X hX => ps_expr (hX.K ▸ pe_bm PySem.F.plainAttrs_list PySem.F.slot_list_append PySem.F.type_list_append mt_append (pe_var (i := j) (by rw [hX.N]; exact hN) (by rw [hX.sc]; exact hv) hd hcd) (pa_cons (pe_w hX) pa_nil (hs [] X.env)) (hba X) (by rw [hs [] X.env]; rfl) hli (hs [] X.env) rfl) rfl) ⟨.ref a, h1, .inl ⟨rfl, _, SqL.of h2⟩, ?_⟩
  refine h σ H F at_ _ fun v H1 F1 a1 x1 dv => ?_
  have h2' : H1 a = some (.lst vs) := x1.h.keep a _ h2 fun _ z => by cases z
  exact ⟨a, vs, v, rfl, rfl, h2', by rw [h3.zlen]; exact hz, k1 _ σ _ F1 hp (a1.owSet hg h1 ((h3.zmono x1.f).zapp (.cons dv .nil))) x1.f⟩
/-- x[i] = e, x an owned list -/
theorem s1_setix {x : Str} {j i : Nat} {k : Int} {pn pt : Pos} (hN : S.N[j]? = some x) (hv : Vis S.sc x) (hg : γ[j]? = some (.ow (.list ds))) (h : EJ S γ e d) (hi : EJ S γ a (.int k)) (hk : ixN ds.length k = some i) (hd : (x == ("__debug__" : Str)) = false) (hcd : (x == ("__classdict__" : Str)) = false)
    (ha : ∀ (X : Cx) v, assign (.Subscript (.Name x pn) a pt) X.env v = (do
      let ov ← holding [v] (eval (.Name x pn) X.env)
      let iv ← holding [v, ov] (eval a X.env)
      standAt pt
      holding [v, ov, iv] (setItem ov iv v)
      release [v, ov, iv] []))
    (hs : ∀ X : Cx, swapsWithSole [.Subscript (.Name x pn) a pt] e pos.line X.env = pure false) (hw : ∀ X : Cx, swappedStores [.Subscript (.Name x pn) a pt] e X.env = pure none) (he : ∀ X : Cx, (assignEach [.Subscript (.Name x pn) a pt] X.env).map (·.2) = [assign (.Subscript (.Name x pn) a pt) X.env])
    (hp : p.nx (γ.set j (.ow (.list (ds.set i d))))) : SJ1 S γ (.Assign [.Subscript (.Name x pn) a pt] e pos) p := fun σ H F at_ D k1 k2 => by
  obtain ⟨b, h1, hB, hF, vs, h2, h3⟩ := at_.ow j _ hg
  refine wS1_of (fun X hX => ps_asg (pe_w hX) (pg_sub (pe_var (i := j) (by rw [hX.N]; exact hN) (by rw [hX.sc]; exact hv) hd hcd) (pe_w hX) set_list (ha X)) (hs X) (hw X) (he X)) (h σ H F at_ _ fun v H1 F1 a1 x1 dv => ⟨.ref b, h1, ?_⟩)
  refine hi σ H1 F1 a1 _ fun u H2 F2 a2 x2 du => ?_
  cases du
  have h2' : H2 b = some (.lst vs) := (x1.trans x2).h.keep b _ h2 fun _ z => by cases z
  exact ⟨b, vs, k, i, rfl, rfl, h2', by rw [h3.zlen]; exact hk, k1 _ σ _ F2 hp (a2.owSet hg h1 (DpAll.zset (dv.zmono x2.f) i (h3.zmono (x1.trans x2).f))) (x1.trans x2).f⟩
/-- for -/
theorem s1_for {body : List Stmt} {items : List PyData} (hi : IF S γ tg iter items) (I : Nat → Gm → Prop) (h0 : I 0 γ) (hb : ∀ i d γ1, items[i]? = some d → I i γ1 → ∃ γ2 is, GJ S γ1 tg d γ2 is ∧ SJ S γ2 body ⟨I (i + 1), p.rt⟩) (hd : ∀ γ1, I items.length γ1 → p.nx γ1)
    (hs : ∀ (X : Cx) x, foldedSetIterable iter X.env x = pure x) : SJ1 S γ (.For tg iter body [] pos) p := fun σ H F at_ D k1 k2 =>
  wS1_of (fun X hX => ps_for (by rw [hX.xe]; exact PassesOwn.never) hX.calm (pi_w hX) (pg_w hX) (pss_w hX) (hs X)) (hi σ H F at_ _ fun J H1 F1 a1 x1 hz w => by
    refine for_it (n := items.length) (G := Le F1) w (Pv := fun i σ2 H2 => ∃ γ2 F2, I i γ2 ∧ At S γ2 σ2 H2 F2 ∧ Le F1 F2) ⟨γ, F1, h0, a1, Le.refl F1⟩ ?_ ?_ ?_
    · rintro i σ2 H2 _ ⟨γ2, F2, _, a2, l2⟩
      exact fun b o e => a2.hf.sub b o (l2 b o e)
    · rintro i x σ2 H2 H3 hi ⟨γ2, F2, hI, a2, l2⟩ ⟨d, hd, hy⟩
      obtain ⟨F3, a3, l3, dx⟩ : ∃ F3, At S γ2 σ2 H3 F3 ∧ Le F2 F3 ∧ Dp S.K F3 x d := by
        rcases hy with ⟨e1, dx⟩ | ⟨T, xs, ds, hT, e1, e2, e3, dx⟩
        · subst e1
          exact ⟨F2, a2, Le.refl F2, dx.zmono l2⟩
        · subst e1; subst e2; subst e3
          have x4 : Ex2 H2 F2 (upd H2 T (.tup xs)) (upd F2 T (.tup xs)) := ex_new a2.hf hT
          exact ⟨_, a2.ex x4 (a2.hf.new hT fun _ z => by cases z), x4.f, .tup (SqT.of upd_same) (dx.zmono (l2.trans x4.f))⟩
      obtain ⟨γ4, is, g, hbody⟩ := hb i d γ2 hd hI
      refine g σ2 H3 F3 x a3 dx _ fun σ4 a4 _ _ => ?_
      exact hbody σ4 H3 F3 a4 _ (fun γ5 σ5 H5 F5 hn a5 l5 => ⟨γ5, F5, hn, a5, (l2.trans l3).trans l5⟩) fun d v H5 F5 hr a5 l5 dv => k2 d v H5 F5 hr a5 (((x1.f.trans l2).trans l3).trans l5) dv
    · rintro σ2 H2 ⟨γ2, F2, hI, a2, l2⟩
      exact k1 γ2 σ2 H2 F2 (hd γ2 hI) a2 (x1.f.trans l2))
/-- while: I with what is left of the fuel -/
theorem s1_while {body : List Stmt} (I : Nat → Gm → Prop) {n : Nat} (h0 : I n γ) (hb : ∀ m γ1, I m γ1 → ∃ k, TJ S γ1 c k ∧ (k = true → SJ S γ1 body ⟨fun γ2 => ∃ m', m' < m ∧ I m' γ2, p.rt⟩) ∧ (k = false → p.nx γ1)) : SJ1 S γ (.While c body [] pos) p := fun σ H F at_ D k1 k2 =>
  wS1_of (fun X hX => ps_while (by rw [hX.xe]; exact PassesOwn.never) (pt_w hX) (pss_w hX)) ⟨fun m σ2 H2 => ∃ γ2 F2, I m γ2 ∧ At S γ2 σ2 H2 F2 ∧ Le F F2, ⟨n, γ, F, h0, at_, Le.refl F⟩, by
    rintro m σ2 H2 ⟨γ2, F2, hI, a2, l2⟩
    obtain ⟨k, tc, ht, hf⟩ := hb m γ2 hI
    refine tc σ2 H2 F2 a2 _ fun H3 F3 a3 x3 => ?_
    cases k with
    | true =>
      rw [if_pos rfl]
      refine ⟨fun σ4 H4 => ∃ m', m' < m ∧ ∃ γ4 F4, I m' γ4 ∧ At S γ4 σ4 H4 F4 ∧ Le F F4, fun σ4 H4 h => h, ?_⟩
      exact ht rfl σ2 H3 F3 a3 _ (fun γ4 σ4 H4 F4 ⟨m', hm, hI4⟩ a4 l4 => ⟨m', hm, γ4, F4, hI4, a4, (l2.trans x3.f).trans l4⟩) fun d v H5 F5 hr a5 l5 dv => k2 d v H5 F5 hr a5 ((l2.trans x3.f).trans l5) dv
    | false =>
      rw [if_neg Bool.false_ne_true]
      exact k1 γ2 σ2 H3 F3 (hf rfl) a3 (l2.trans x3.f)⟩
end

/-! ### defs -/
/-- what a def promises: from the arguments' data to the answer's -/
def spR (K : PySem.W.Frag) (tabs : List Addr) (n : Nat) (R : List PyData → PyData → Prop) : Sp := fun vs H Q _ => vs.length = n ∧ ∃ F ds r, HF H F ∧ (∀ P ∈ tabs, TabOk H P) ∧ DpAll K F vs ds ∧ R ds r ∧
  ∀ v H' F', Ex2 H F H' F' → HF H' F' → Dp K F' v r → Q v H'
abbrev FnR (S : Stat) (k : Nat) (f : Addr) (fd : FuncData) (ps : List Str) (R : List PyData → PyData → Prop) : Prop := FnOk S.P S.w S.K S.mg S.base CX0 k f fd ps (spR S.K S.tabs ps.length R)
section
variable {S : Stat} {γ : Gm} {e : Expr} {es : List Expr} {ds : List PyData} {d : PyData} {pos p : Pos}
/-- f(..) -/
theorem e_call {x : Str} {k : Nat} {f : Addr} {fd : FuncData} {ps : List Str} {R : List PyData → PyData → Prop} (G : FnR S k f fd ps R) (hk : k ≤ S.k) (hg : IsGl S x) (hm : S.mg x = some (.ref f)) (kp : PySem.W.keepIn S.K (.ref f) = true) (hb : Binds S.K fd ps [])
    (ha : AJ S γ (e :: es) ds) (hr : R ds d) (hl : ds.length = ps.length) (hs : PlainE e) (hpl : ∀ X : Cx, (backTo pos (starEach es X.env)).any (·.1) = false) (hdb : (x == ("__debug__" : Str)) = false) : EJ S γ (.Call (.Name x p) (e :: es) [] pos) d := fun σ H F at_ Q q =>
  wE_of (t := tCall (spR S.K S.tabs ps.length R) [] E0 (wA S (e :: es))) (fun X hX => by
    obtain ⟨prog, w, K, mg, base, A, N, s0, H0, env, outer, stack, ex, fn, calm, pn, xe⟩ := X
    obtain ⟨h1, h2, h3, h4, h5, h6, h7, h8, h9, h10, h11, h12⟩ := id hX
    simp only at h1 h2 h3 h4 h5 h9
    subst h1 h2 h3 h4 h5
    exact pe_call G (h9.mono hk) (hX.gl hg) hm kp hb .nil pass0 (pa_w hX) hdb (hs es env) (hpl _))
    (ha σ H F at_ _ fun vs H1 F1 a1 x1 d1 => by
      show spR S.K S.tabs ps.length R (vs ++ []) H1 Q E0
      rw [List.append_nil]
      exact ⟨by rw [d1.zlen]; exact hl, F1, ds, d, a1.hf, a1.tabs, d1, hr, fun v H2 F2 x2 hf dv => q v H2 F2 (a1.ex x2 hf) (x1.trans x2) dv⟩)
end
/-- a def's static part -/
def Stat.of (P : Program) (w : World) (K : PySem.W.Frag) (mg : Str → Option Value) (base : Heap) (N : List Str) (sc : Scope) (k : Nat) (tabs : List Addr) (code : Value) (B F0 : Hp) : Stat := ⟨P, w, K, mg, base, N, sc, fun _ => true, k, tabs, code, B, F0⟩
def gm0 (n : Nat) (ds : List PyData) : Gm := ds.map .sh ++ List.replicate (n - ds.length) .un
theorem dp_start {K : PySem.W.Frag} {F : Hp} {n : Nat} : ∀ {vs : List V} {ds : List PyData}, DpAll K F vs ds → ∀ (i : Nat) (d : PyData), (ds.map Sl.sh ++ List.replicate n .un)[i]? = some (.sh d) → ∃ v, (vs.map some ++ List.replicate n (none : Option V))[i]? = some (some v) ∧ Dp K F v d
  | _, _, .nil, i, d, e => by
    simp only [List.map_nil, List.nil_append, List.getElem?_replicate] at e
    split at e <;> cases e
  | _, _, .cons h t, 0, d, e => by
    cases e
    exact ⟨_, rfl, h⟩
  | _, _, .cons h t, i + 1, d, e => dp_start t i d e
theorem gm0_ow {n : Nat} : ∀ {ds : List PyData} {i : Nat} {d : PyData}, (ds.map Sl.sh ++ List.replicate n .un)[i]? ≠ some (.ow d)
  | [], i, d, e => by
    simp only [List.map_nil, List.nil_append, List.getElem?_replicate] at e
    split at e <;> cases e
  | _ :: ds, 0, d, e => by cases e
  | _ :: ds, i + 1, d, e => gm0_ow (ds := ds) (i := i) (d := d) e
/-- a def by its body -/
theorem def_ok {P : Program} {w : World} {K : PySem.W.Frag} {mg : Str → Option Value} {base : Heap} {x qual : Str} {st : Stmt} {f : Addr} {fd : FuncData} {N ps : List Str} {k : Nat} {tabs : List Addr} {R : List PyData → PyData → Prop} (Fn : Fun K x qual st f fd) (Sc : FnScope N ps (defScope st))
    (hbody : ∀ (cdv : Value) (B F0 : Hp) (ds : List PyData) (r : PyData), ds.length = ps.length → R ds r → SJ (Stat.of P w K mg base N (defScope st) k tabs cdv B F0) (gm0 N.length ds) (defBody st) ⟨fun _ => r = .none, fun d => d = r⟩) : FnOk P w K mg base CX0 (k + 1) f fd ps (spR K tabs ps.length R) := by
  refine Fn.ok Sc (fun vs H Q E h => h.1) fun cdv A outer s H vs Q E hr h => ?_
  obtain ⟨hl, F, ds, r, hf, tb, dv, hR, q⟩ := h
  have hX : IsCx (Stat.of P w K mg base N (defScope st) k tabs cdv H F) (cxOf CX0 P w K mg base N qual (defScope st) f cdv A outer s H E).nox :=
    ⟨rfl, rfl, rfl, rfl, rfl, rfl, rfl, rfl, hr, rfl, rfl, rfl⟩
  have hlen : ds.length = ps.length := dv.zlen ▸ hl
  have hpl : ps.length ≤ N.length := by
    have := congrArg List.length Sc.pre
    rw [List.length_take] at this
    omega
  refine ⟨_, pss_w hX, hbody cdv H F ds r hlen hR (L2.start N vs) H F ⟨⟨Ext.refl H, hf, Le.refl F, (fun a o e n => by have n' : F a = none := n; rw [n'] at e; cases e), tb⟩, ?_, fun i d e => ?_, fun i d e => ?_, fun i j d e a h1 => ?_⟩ _ ?_ ?_⟩
  · unfold L2.start gm0
    rw [List.length_append, List.length_append, List.length_map, List.length_map, List.length_replicate, List.length_replicate, dv.zlen]
  · unfold gm0 at e
    unfold L2.start
    rw [dv.zlen]
    exact dp_start dv i d e
  · exact absurd e gm0_ow
  · exact absurd h1 gm0_ow
  · rintro γ' σ' H' F' hn a1 le
    refine q .non H' F' ⟨a1.ext, a1.f0, a1.new⟩ a1.hf ?_
    have : r = .none := hn
    rw [this]; exact .non
  · rintro d v H' F' hd a1 le dv'
    obtain rfl : d = r := hd
    exact q v H' F' ⟨a1.ext, a1.f0, a1.new⟩ a1.hf dv'
end SM

set_option autoImplicit false
set_option Elab.async false
set_option linter.all false
set_option maxRecDepth 100000
set_option maxHeartbeats 4000000
namespace SM
open PySem PySem.Spec PyProof.Rows L2

/-! ### statements against an Option -/
inductive Res (ρ τ : Type) where
  | ret (r : ρ) | nx (t : τ)
def J {α : Type} (S : Stat) (γ : Gm) (ss : List Stmt) (post : α → Post) (o : Option α) : Prop := ∀ x, o = some x → SJ S γ ss (post x)
def pT {ρ : Type} (enc : ρ → PyData) : ρ → Post := fun r => ⟨fun _ => False, fun d => d = enc r⟩
def pN {τ : Type} (γof : τ → Gm) : τ → Post := fun t => ⟨fun γ' => GLe γ' (γof t), fun _ => False⟩
def pM {ρ τ : Type} (enc : ρ → PyData) (γof : τ → Gm) : Res ρ τ → Post
  | .ret r => ⟨fun _ => False, fun d => d = enc r⟩
  | .nx t => ⟨fun γ' => GLe γ' (γof t), fun _ => False⟩
def Post.noNx (p : Post) : Post := ⟨fun _ => False, p.rt⟩
theorem SJ.imp {S : Stat} {γ : Gm} {ss : List Stmt} {p p' : Post} (h : SJ S γ ss p) (h1 : ∀ g, p.nx g → p'.nx g) (h2 : ∀ d, p.rt d → p'.rt d) : SJ S γ ss p' := fun σ H F at_ D k1 k2 =>
  h σ H F at_ D (fun γ' σ' H' F' hn => k1 γ' σ' H' F' (h1 _ hn)) fun d v H' F' hr => k2 d v H' F' (h2 _ hr)
theorem gle_nil : GLe [] [] := trivial
theorem gle_un {x : Sl} {r r' : Gm} (h : GLe r r') : GLe (x :: r) (.un :: r') := h
theorem gle_eq {x : Sl} {r r' : Gm} (h : GLe r r') : GLe (x :: r) (x :: r') := by
  cases x <;> first | exact h | exact ⟨rfl, h⟩
theorem gle_to {x y : Sl} {r r' : Gm} (e : x = y) (h : GLe r r') : GLe (x :: r) (y :: r') := e ▸ gle_eq h
theorem GLe.rfl : ∀ {γ : Gm}, GLe γ γ
  | [] => gle_nil
  | _ :: _ => gle_eq GLe.rfl
section
variable {S : Stat} {γ γ' : Gm} {ss rest sa sb body : List Stmt} {e a b c tg iter elt : Expr} {d : PyData} {ds : List PyData} {pos px : Pos} {α β τ ρ : Type} {post : α → Post} {o : Option α} {is : List Nat}
theorem j_bind {x : Option τ} {f : τ → Option α} (h : ∀ t, x = some t → J S γ ss post (f t)) : J S γ ss post (x.bind f) := fun y hy => by
  obtain ⟨t, h1, h2⟩ := Option.bind_eq_some_iff.mp hy
  exact h t h1 y h2
theorem j_weak {γ2 : Gm} (w : GLe γ γ2) (h : J S γ2 ss post o) : J S γ ss post o := fun x hx => s_weak w (h x hx)
theorem j_ret {x : α} (h : EJ S γ e d) (hp : (post x).rt d) : J S γ (.Return (some e) pos :: rest) post (some x) := fun y hy => by
  cases hy
  exact s_cons (N := fun _ => False) (s1_ret h hp) fun _ z => z.elim
theorem j_nil {x : α} (h : (post x).nx γ) : J S γ [] post (some x) := fun y hy => by cases hy; exact s_nil h
theorem j_set {x : Str} {i : Nat} (n : NmOk S x i) (h : EJ S γ e d) (hs : ∀ X, IsCx S X → swapsWith e (some (.Name x px)) pos.line X.env = pure false) (hr : J S (γ.set i (.sh d)) rest post o) : J S γ (.Assign [.Name x px] e pos :: rest) post o := fun y hy =>
  s_cons (N := fun g => g = γ.set i (.sh d)) (s1_set n h hs rfl) fun g hg => by subst hg; exact hr y hy
theorem j_setF {x : Str} {i : Nat} (n : NmOk S x i) (h : FJ S γ e ds) (hs : ∀ X, IsCx S X → swapsWith e (some (.Name x px)) pos.line X.env = pure false) (hr : J S (γ.set i (.ow (.list ds))) rest post o) : J S γ (.Assign [.Name x px] e pos :: rest) post o := fun y hy =>
  s_cons (N := fun g => g = γ.set i (.ow (.list ds))) (s1_setF n h hs rfl) fun g hg => by subst hg; exact hr y hy
theorem j_setLc {encA : τ → PyData} {encB : β → PyData} {xs : List τ} {ys : List β} {f : τ → Option (Option β)} {x : Str} {i : Nat} {ifs : List Expr} {scope : Scope} {own : List (Str × Nat)} {pl : Pos} (n : NmOk S x i) (hy : S.sc.names.lookup x = some .local)
    (hi : IX S γ tg iter (xs.map encA)) (hb : ∀ x ∈ xs, CBO (S.blk scope) (wipeG γ (own.map (·.2))) tg ifs elt (own.map (·.2)) (encA x) encB (f x)) (hr : compM f xs = some ys)
    (ok : blkC S.N S.sc scope own = true) (h1 : ifs.length ≤ 1) (hs : ∀ (X : Cx) x, foldedSetIterable iter X.env x = pure x) (hli : (px.line == pl.line) = true) (hk : S.sc.kind = .function)
    (hsn : (scope.names.any fun (n, k) => n == x && (k == .local || k == .cell)) = false) (hrest : J S (γ.set i (.ow (.list (ys.map encB)))) rest post o) : J S γ (.Assign [.Name x px] (.ListComp elt [⟨tg, iter, ifs, 0⟩] scope pl) pos :: rest) post o := fun y hyy => by
  obtain ⟨rs, l, g, e⟩ := compM_get hr
  have e2 : (rs.map fun r => r.map encB).filterMap id = ys.map encB := by rw [fm_map, ← e]
  refine s_cons (N := fun g => g = γ.set i (.ow (.list ((rs.map fun r => r.map encB).filterMap id)))) (s1_setLc (outs := rs.map fun r => r.map encB) n hy hi (fun i d hd => ?_) (by rw [List.length_map, List.length_map, l]) ok h1 hs hli hk hsn rfl) fun g hg => by subst hg; rw [e2]; exact hrest y hyy
  rw [List.getElem?_map] at hd
  cases hx : xs[i]? with
  | none => rw [hx] at hd; cases hd
  | some x =>
    rw [hx] at hd
    obtain rfl : encA x = d := Option.some.inj hd
    obtain ⟨r, h2, h3⟩ := g i x hx
    exact ⟨r.map encB, by rw [List.getElem?_map, h2]; rfl, hb x (List.mem_of_getElem? hx) r h3⟩
theorem j_asg (h : EJ S γ e d) (g : GJ S γ tg d γ' is) (hs : ∀ X : Cx, swapsWithSole [tg] e pos.line X.env = pure false) (hw : ∀ X : Cx, swappedStores [tg] e X.env = pure none) (h1 : ∀ X : Cx, (assignEach [tg] X.env).map (·.2) = [assign tg X.env]) (hr : J S γ' rest post o) : J S γ (.Assign [tg] e pos :: rest) post o := fun y hy =>
  s_cons (N := fun g => g = γ') (s1_asg h g hs hw h1 rfl) fun g hg => by subst hg; exact hr y hy
theorem j_mv {x y : Str} {i j : Nat} {py : Pos} (n : NmOk S x i) (hN : S.N[j]? = some y) (hv : Vis S.sc y) (hg : γ[j]? = some (.ow d)) (hd : (y == ("__debug__" : Str)) = false) (hcd : (y == ("__classdict__" : Str)) = false)
    (hr : J S ((γ.set j .un).set i (.ow d)) rest post o) : J S γ (.Assign [.Name x px] (.Name y py) pos :: rest) post o := fun z hz =>
  s_cons (N := fun g => g = (γ.set j .un).set i (.ow d)) (s1_mv n hN hv hg hd hcd rfl) fun g hg => by subst hg; exact hr z hz
theorem j_share {j : Nat} (hg : γ[j]? = some (.ow (.list ds))) (h : J S (γ.set j (.sh (.list ds))) ss post o) : J S γ ss post o := fun y hy => s_share hg (h y hy)
theorem j_expr (h : EJ S γ e d) (hs : ∀ X : Cx, swapsWith e none pos.line X.env = pure false) (hr : J S γ rest post o) : J S γ (.Expr e pos :: rest) post o := fun y hy =>
  s_cons (N := fun g => g = γ) (s1_expr h hs rfl) fun g hg => by subst hg; exact hr y hy
theorem j_app {enc : τ → PyData} {xs : List τ} {v : τ} {x : Str} {j : Nat} {pa pc pn : Pos} (hN : S.N[j]? = some x) (hv : Vis S.sc x) (hg : γ[j]? = some (.ow (.list (xs.map enc)))) (h : EJ S γ e (enc v)) (hz : xs.length < sizeLine) (hs : PlainE e) (hd : (x == ("__debug__" : Str)) = false) (hcd : (x == ("__classdict__" : Str)) = false)
    (hba : ∀ X : Cx, attributeBase (.Name x pn) "append" X.env (eval (.Name x pn) X.env) = eval (.Name x pn) X.env) (hli : (pa.endLine == pc.line) = true) (hr : J S (γ.set j (.ow (.list ((xs ++ [v]).map enc)))) rest post o) : J S γ (.Expr (.Call (.Attribute (.Name x pn) "append" pa) [e] [] pc) pos :: rest) post o := fun y hy =>
  s_cons (N := fun g => g = γ.set j (.ow (.list ((xs ++ [v]).map enc)))) (s1_app hN hv hg h (by rw [List.length_map]; exact hz) hs hd hcd hba hli (by rw [List.map_append]; rfl)) fun g hg => by subst hg; exact hr y hy
theorem map_set {enc : τ → PyData} : ∀ (xs : List τ) (i : Nat) (v : τ), (xs.map enc).set i (enc v) = (xs.set i v).map enc := fun xs i v => (List.map_set ..).symm
theorem j_setix {enc : τ → PyData} {xs : List τ} {v : τ} {x : Str} {j i : Nat} {k : Int} {pn pt : Pos} (hN : S.N[j]? = some x) (hv : Vis S.sc x) (hg : γ[j]? = some (.ow (.list (xs.map enc)))) (h : EJ S γ e (enc v)) (hi : EJ S γ a (.int k)) (hk : ixN xs.length k = some i) (hd : (x == ("__debug__" : Str)) = false) (hcd : (x == ("__classdict__" : Str)) = false)
    (ha : ∀ (X : Cx) v, assign (.Subscript (.Name x pn) a pt) X.env v = (do
      let ov ← holding [v] (eval (.Name x pn) X.env)
      let iv ← holding [v, ov] (eval a X.env)
      standAt pt
      holding [v, ov, iv] (setItem ov iv v)
      release [v, ov, iv] []))
    (hs : ∀ X : Cx, swapsWithSole [.Subscript (.Name x pn) a pt] e pos.line X.env = pure false) (hw : ∀ X : Cx, swappedStores [.Subscript (.Name x pn) a pt] e X.env = pure none) (he : ∀ X : Cx, (assignEach [.Subscript (.Name x pn) a pt] X.env).map (·.2) = [assign (.Subscript (.Name x pn) a pt) X.env])
    (hr : J S (γ.set j (.ow (.list ((xs.set i v).map enc)))) rest post o) : J S γ (.Assign [.Subscript (.Name x pn) a pt] e pos :: rest) post o := fun y hy =>
  s_cons (N := fun g => g = γ.set j (.ow (.list ((xs.set i v).map enc)))) (s1_setix hN hv hg h hi (by rw [List.length_map]; exact hk) hd hcd ha hs hw he (by rw [map_set])) fun g hg => by subst hg; exact hr y hy
/-- if c: .. return; rest -/
theorem j_ifR {k : Bool} {o1 o2 : Option α} (hc : TJ S γ c k) (ha : k = true → J S γ sa (fun x => (post x).noNx) o1) (hr : k = false → J S γ rest post o2) : J S γ (.If c sa [] pos :: rest) post (if k = true then o1 else o2) := fun y hy => by
  cases k with
  | true =>
    rw [if_pos rfl] at hy
    exact s_cons (N := fun _ => False) (s1_if hc (fun _ => (ha rfl y hy).imp (fun _ z => z) fun _ z => z) fun z => by cases z) fun _ z => z.elim
  | false =>
    rw [if_neg Bool.false_ne_true] at hy
    exact s_cons (N := fun g => g = γ) (s1_if hc (fun z => by cases z) fun _ => s_nil rfl) fun g hg => by subst hg; exact hr rfl y hy
/-- if c: .. return; else: .. return -/
theorem j_ifE {k : Bool} {o1 o2 : Option α} (hc : TJ S γ c k) (ha : k = true → J S γ sa (fun x => (post x).noNx) o1) (hb : k = false → J S γ sb (fun x => (post x).noNx) o2) : J S γ (.If c sa sb pos :: rest) post (if k = true then o1 else o2) := fun y hy => by
  cases k with
  | true =>
    rw [if_pos rfl] at hy
    exact s_cons (N := fun _ => False) (s1_if hc (fun _ => (ha rfl y hy).imp (fun _ z => z) fun _ z => z) fun z => by cases z) fun _ z => z.elim
  | false =>
    rw [if_neg Bool.false_ne_true] at hy
    exact s_cons (N := fun _ => False) (s1_if hc (fun z => by cases z) fun _ => (hb rfl y hy).imp (fun _ z => z) fun _ z => z) fun _ z => z.elim
/-- both ways go on -/
theorem j_ifJ {k : Bool} {γj : τ → Gm} {o1 o2 : Option τ} {f : τ → Option α} (hc : TJ S γ c k) (ha : k = true → J S γ sa (pN γj) o1) (hb : k = false → J S γ sb (pN γj) o2) (hr : ∀ t, J S (γj t) rest post (f t)) : J S γ (.If c sa sb pos :: rest) post ((if k = true then o1 else o2).bind f) := fun y hy => by
  obtain ⟨t, h1, h2⟩ := Option.bind_eq_some_iff.mp hy
  refine s_cons (N := fun g => GLe g (γj t)) (s1_if (k := k) hc (fun hk => ?_) fun hk => ?_) fun g hg => s_weak hg (hr t y h2)
  · subst hk
    exact (ha rfl t (by simpa using h1)).imp (fun _ z => z) fun _ z => z.elim
  · subst hk
    exact (hb rfl t (by simpa using h1)).imp (fun _ z => z) fun _ z => z.elim
def Res.elim {ρ τ α : Type} (inj : ρ → α) (f : τ → Option α) : Res ρ τ → Option α
  | .ret r => some (inj r)
  | .nx t => f t
/-- each way goes on or returns -/
theorem j_ifM {k : Bool} {encR : ρ → PyData} {inj : ρ → α} {γj : τ → Gm} {o1 o2 : Option (Res ρ τ)} {f : τ → Option α} (hc : TJ S γ c k) (ha : k = true → J S γ sa (pM encR γj) o1) (hb : k = false → J S γ sb (pM encR γj) o2) (hinj : ∀ r, (post (inj r)).rt (encR r)) (hr : ∀ t, J S (γj t) rest post (f t)) :
    J S γ (.If c sa sb pos :: rest) post ((if k = true then o1 else o2).bind (Res.elim inj f)) := fun y hy => by
  obtain ⟨x, h1, h2⟩ := Option.bind_eq_some_iff.mp hy
  have run : SJ1 S γ (.If c sa sb pos) (pM encR γj x) := s1_if (k := k) hc (fun hk => by subst hk; exact ha rfl x (by simpa using h1)) fun hk => by subst hk; exact hb rfl x (by simpa using h1)
  cases x with
  | ret r =>
    cases h2
    refine s_cons (N := fun _ => False) (fun σ H F at_ D k1 k2 => run σ H F at_ D (fun _ _ _ _ z => z.elim) fun d v H' F' hd => k2 d v H' F' ?_) fun _ z => z.elim
    obtain rfl : d = encR r := hd
    exact hinj r
  | nx t => exact s_cons (N := fun g => GLe g (γj t)) (fun σ H F at_ D k1 k2 => run σ H F at_ D k1 fun _ _ _ _ z => z.elim) fun g hg => s_weak hg (hr t y h2)
theorem GJ.weak {γ2 : Gm} (w : GLe γ γ2) (h : GJ S γ2 tg d γ' is) : GJ S γ tg d γ' is := fun σ H F v at_ dv Q q => h σ H F v (at_.weak w) dv Q q
theorem at_map {enc : τ → PyData} {xs : List τ} {i : Nat} (h : (xs.map enc)[i]? = some d) : ∃ x, xs[i]? = some x ∧ enc x = d := by
  rw [List.getElem?_map] at h
  cases hx : xs[i]? with
  | none => rw [hx] at h; cases h
  | some x => rw [hx] at h; exact ⟨x, rfl, Option.some.inj h⟩
theorem drop_at {xs : List τ} {i : Nat} {x : τ} (h : xs[i]? = some x) : xs.drop i = x :: xs.drop (i + 1) := by
  obtain ⟨hl, e⟩ := List.getElem?_eq_some_iff.mp h
  rw [← e]; exact List.drop_eq_getElem_cons hl
/-- for, that goes on -/
theorem j_for {enc : τ → PyData} {xs : List τ} {γ0 : β → Gm} {t0 : β} {f : β → τ → Option β} {k : β → Option α} (hi : IF S γ tg iter (xs.map enc)) (h0 : GLe γ (γ0 t0))
    (hb : ∀ t, ∀ x ∈ xs, ∃ γ2 is, GJ S (γ0 t) tg (enc x) γ2 is ∧ J S γ2 body (pN γ0) (f t x)) (hr : ∀ t, J S (γ0 t) rest post (k t)) (hs : ∀ (X : Cx) x, foldedSetIterable iter X.env x = pure x) : J S γ (.For tg iter body [] pos :: rest) post ((xs.foldlM f t0).bind k) := fun y hy => by
  obtain ⟨t1, h1, h2⟩ := Option.bind_eq_some_iff.mp hy
  refine s_cons (N := fun g => GLe g (γ0 t1)) (s1_for hi (fun i g => ∃ t, GLe g (γ0 t) ∧ (xs.drop i).foldlM f t = some t1) ⟨t0, h0, h1⟩ ?_ ?_ hs) fun g hg => s_weak hg (hr t1 y h2)
  · rintro i d g hd ⟨t, hg, hf⟩
    obtain ⟨x, hx, rfl⟩ := at_map hd
    rw [drop_at hx, List.foldlM_cons] at hf
    obtain ⟨t', h3, h4⟩ := Option.bind_eq_some_iff.mp hf
    obtain ⟨γ2, is, g1, g2⟩ := hb t x (List.mem_of_getElem? hx)
    exact ⟨γ2, is, g1.weak hg, (g2 t' h3).imp (fun g hg => ⟨t', hg, h4⟩) fun _ z => z.elim⟩
  · rintro g ⟨t, hg, hf⟩
    rw [List.length_map, List.drop_length] at hf
    cases hf
    exact hg
def foldR {ρ τ β : Type} (f : β → τ → Option (Res ρ β)) : β → List τ → Option (Res ρ β)
  | t, [] => some (.nx t)
  | t, x :: xs => (f t x).bind (Res.elim .ret fun t' => foldR f t' xs)
/-- for, with a return within -/
theorem j_forR {enc : τ → PyData} {xs : List τ} {encR : ρ → PyData} {inj : ρ → α} {γ0 : β → Gm} {t0 : β} {f : β → τ → Option (Res ρ β)} {k : β → Option α} (hi : IF S γ tg iter (xs.map enc)) (h0 : GLe γ (γ0 t0))
    (hb : ∀ t, ∀ x ∈ xs, ∃ γ2 is, GJ S (γ0 t) tg (enc x) γ2 is ∧ J S γ2 body (pM encR γ0) (f t x)) (hinj : ∀ r, (post (inj r)).rt (encR r)) (hr : ∀ t, J S (γ0 t) rest post (k t)) (hs : ∀ (X : Cx) x, foldedSetIterable iter X.env x = pure x) :
    J S γ (.For tg iter body [] pos :: rest) post ((foldR f t0 xs).bind (Res.elim inj k)) := fun y hy => by
  obtain ⟨r1, h1, h2⟩ := Option.bind_eq_some_iff.mp hy
  have run : SJ1 S γ (.For tg iter body [] pos) (pM encR γ0 r1) := by
    refine s1_for hi (fun i g => ∃ t, GLe g (γ0 t) ∧ foldR f t (xs.drop i) = some r1) ⟨t0, h0, h1⟩ ?_ ?_ hs
    · rintro i d g hd ⟨t, hg, hf⟩
      obtain ⟨x, hx, rfl⟩ := at_map hd
      rw [drop_at hx] at hf
      unfold foldR at hf
      obtain ⟨t', h3, h4⟩ := Option.bind_eq_some_iff.mp hf
      obtain ⟨γ2, is, g1, g2⟩ := hb t x (List.mem_of_getElem? hx)
      refine ⟨γ2, is, g1.weak hg, ?_⟩
      cases t' with
      | ret r =>
        cases h4
        exact (g2 _ h3).imp (fun _ z => z.elim) fun _ z => z
      | nx t2 => exact (g2 _ h3).imp (fun g hg => ⟨t2, hg, h4⟩) fun _ z => z.elim
    · rintro g ⟨t, hg, hf⟩
      rw [List.length_map, List.drop_length] at hf
      cases hf
      exact hg
  cases r1 with
  | ret r =>
    cases h2
    refine s_cons (N := fun _ => False) (fun σ H F at_ D k1 k2 => run σ H F at_ D (fun _ _ _ _ z => z.elim) fun d v H' F' hd => k2 d v H' F' ?_) fun _ z => z.elim
    obtain rfl : d = encR r := hd
    exact hinj r
  | nx t => exact s_cons (N := fun g => GLe g (γ0 t)) (fun σ H F at_ D k1 k2 => run σ H F at_ D k1 fun _ _ _ _ z => z.elim) fun g hg => s_weak hg (hr t y h2)
def whileR {ρ β : Type} (c : β → Option Bool) (f : β → Option (Res ρ β)) : Nat → β → Option (Res ρ β)
  | 0, _ => none
  | n + 1, t => (c t).bind fun k => if k = true then (f t).bind (Res.elim .ret (whileR c f n)) else some (.nx t)
/-- while, of n turns at most -/
theorem j_while {encR : ρ → PyData} {inj : ρ → α} {γ0 : β → Gm} {t0 : β} {n : Nat} {cc : β → Option Bool} {f : β → Option (Res ρ β)} {k : β → Option α} (h0 : GLe γ (γ0 t0)) (hc : ∀ t b, cc t = some b → TJ S (γ0 t) c b)
    (hb : ∀ t, cc t = some true → J S (γ0 t) body (pM encR γ0) (f t)) (hinj : ∀ r, (post (inj r)).rt (encR r)) (hr : ∀ t, J S (γ0 t) rest post (k t)) :
    J S γ (.While c body [] pos :: rest) post ((whileR cc f n t0).bind (Res.elim inj k)) := fun y hy => by
  obtain ⟨r1, h1, h2⟩ := Option.bind_eq_some_iff.mp hy
  have run : SJ1 S γ (.While c body [] pos) (pM encR γ0 r1) := by
    refine s1_while (fun m g => ∃ t, GLe g (γ0 t) ∧ whileR cc f m t = some r1) (n := n) ⟨t0, h0, h1⟩ ?_
    rintro m g ⟨t, hg, hf⟩
    cases m with
    | zero => cases hf
    | succ m =>
      unfold whileR at hf
      obtain ⟨b, h3, h4⟩ := Option.bind_eq_some_iff.mp hf
      refine ⟨b, fun σ H F at_ Q q => hc t b h3 σ H F (at_.weak hg) Q fun H' F' a1 x1 => q H' F' (at_.ex x1 a1.hf) x1, fun hb1 => ?_, fun hb1 => ?_⟩
      · subst hb1
        rw [if_pos rfl] at h4
        obtain ⟨t', h5, h6⟩ := Option.bind_eq_some_iff.mp h4
        refine s_weak hg ?_
        cases t' with
        | ret r =>
          cases h6
          exact (hb t h3 _ h5).imp (fun _ z => z.elim) fun _ z => z
        | nx t2 => exact (hb t h3 _ h5).imp (fun g hg => ⟨m, Nat.lt_succ_self m, t2, hg, h6⟩) fun _ z => z.elim
      · subst hb1
        rw [if_neg Bool.false_ne_true] at h4
        cases h4
        exact hg
  cases r1 with
  | ret r =>
    cases h2
    refine s_cons (N := fun _ => False) (fun σ H F at_ D k1 k2 => run σ H F at_ D (fun _ _ _ _ z => z.elim) fun d v H' F' hd => k2 d v H' F' ?_) fun _ z => z.elim
    obtain rfl : d = encR r := hd
    exact hinj r
  | nx t => exact s_cons (N := fun g => GLe g (γ0 t)) (fun σ H F at_ D k1 k2 => run σ H F at_ D k1 fun _ _ _ _ z => z.elim) fun g hg => s_weak hg (hr t y h2)
end
end SM

set_option autoImplicit false
set_option Elab.async false
set_option linter.all false
set_option maxRecDepth 100000
set_option maxHeartbeats 4000000
namespace SM
open PySem PySem.Spec PyProof.Rows L2

/-! ### t[::-1] of a tuple -/
section
variable {prog : Program} {w : World} {A : Around} {E : Value → Shared → Prop} {s : Shared}
theorem slice_back {sl : Addr} {vl vu vs : Value} {n : Nat} {Q : Int × Int × Nat → Shared → Prop} (hs : s.heap.IsSliceOf sl vl vu vs) (pl : IsPart vl none) (pu : IsPart vu none) (ps : IsPart vs (some (-1)))
    (h : Q ((n : Int) - 1, -1, n) s) : wpAny (model prog w) A (Builtin.Slice.sliceApplied (.ref sl) (pure (n : Int))) Q E s := by
  obtain ⟨os, e1, e2, e3⟩ := hs
  unfold Builtin.Slice.sliceApplied Builtin.Slice.sliceFields
  refine wpAny_bind (wpAny_bind (wpAny_field e1 e3 (x := vl) rfl (wpAny_bind (wpAny_field e1 e3 (x := vu) rfl (wpAny_bind (wpAny_field e1 e3 (x := vs) rfl (wpAny_pure ?_)))))))
  refine wpAny_bind (HT.slicePart_ ps ?_)
  show wpAny _ _ (if ((-1 : Int) == 0) = true then _ else _) _ _ s
  rw [if_neg (by decide)]
  refine wpAny_bind (HT.slicePart_ pl (wpAny_bind (HT.slicePart_ pu (wpAny_bind (wpAny_pure ?_)))))
  have ea : Builtin.Slice.sliceAdjust none none (-1) (n : Int) = ((n : Int) - 1, -1) := by
    unfold Builtin.Slice.sliceAdjust
    simp
  have eb : Builtin.Slice.slicePlaces ((n : Int) - 1) (-1) (-1) = n := by
    unfold Builtin.Slice.slicePlaces
    simp
    omega
  show wpAny _ _ (match Builtin.Slice.sliceAdjust none none (-1) (n : Int) with | (lo, hi) => pure (lo, (-1 : Int), Builtin.Slice.slicePlaces lo hi (-1))) _ _ s
  rw [ea]
  show wpAny _ _ (pure ((n : Int) - 1, (-1 : Int), Builtin.Slice.slicePlaces ((n : Int) - 1) (-1) (-1))) _ _ s
  rw [eb]
  exact wpAny_pure h
theorem fm_congr {f g : Nat → Option Value} : ∀ (m : Nat) (_ : True), (∀ k, k < m → f k = g k) → (List.range m).filterMap f = (List.range m).filterMap g
  | 0, _, _ => rfl
  | m + 1, t, h => by
    rw [List.range_succ, List.filterMap_append, List.filterMap_append, fm_congr m t fun k hk => h k (Nat.lt_succ_of_lt hk)]
    rw [List.filterMap_cons, List.filterMap_cons, h m (Nat.lt_succ_self m), List.filterMap_nil, List.filterMap_nil]
theorem fm_take (l : List Value) : ∀ (m : Nat), m ≤ l.length → (List.range m).filterMap (fun k => l[k]?) = l.take m
  | 0, _ => rfl
  | m + 1, hm => by
    rw [List.range_succ, List.filterMap_append, fm_take l m (by omega), List.take_add_one]
    congr 1
theorem pick_back (xs : Array Value) : ((List.range xs.size).filterMap fun (k : Nat) => xs[((xs.size : Int) - 1 + (k : Int) * (-1)).toNat]?).toArray = xs.toList.reverse.toArray := by
  congr 1
  have : ((List.range xs.size).filterMap fun (k : Nat) => xs[((xs.size : Int) - 1 + (k : Int) * (-1)).toNat]?) = (List.range xs.size).filterMap fun k => xs.toList.reverse[k]? := by
    exact fm_congr _ trivial fun k hk => by
      have e : ((xs.size : Int) - 1 + (k : Int) * (-1)).toNat = xs.size - 1 - k := by omega
      rw [e, List.getElem?_reverse (by simpa using hk), Array.length_toList, Array.getElem?_toList]
  rw [this, fm_take _ _ (by simp), List.take_of_length_le (by simp)]
theorem getItem_back {t sl : Addr} {items : Array Value} {vl vu vs : Value} {Q : Value → Shared → Prop} (ht : IsTup s.heap t items) (hs : s.heap.IsSliceOf sl vl vu vs) (pl : IsPart vl none) (pu : IsPart vu none) (ps : IsPart vs (some (-1)))
    (h : Q (.ref s.heap.objs.size) { s with heap := s.heap.push { cls := .type "tuple", data := .seq items.toList.reverse.toArray } })
    (hz : items.size ≤ sizeLine) : wpAny (model prog w) A (getItem (.ref t) (.ref sl)) Q E s := by
  have hok : sizeOk (.seq items.toList.reverse.toArray) := by
    show items.toList.reverse.toArray.size ≤ sizeLine
    rw [List.size_toArray, List.length_reverse, Array.length_toList]
    exact hz
  obtain ⟨os, e1, e2, e3⟩ := id hs
  have hTs : s.TypeIs (.ref sl) "slice" := ⟨os, e1, e2⟩
  unfold getItem
  try with_reducible refine wpAny_holding ?_
  first | refine wpAny_bind (wpAny_pure ?_) | skip
  refine wpAny_bind (wpAny_sequenceKey ht.typeIs (by decide) ?_)
  refine wpAny_bind (wpAny_callSpecial?_slot (name := Str.ofString "__getitem__") ht.typeIs slot_tuple_getitem (wpAny_call_entry slot_tuple_getitem ht.typeIs entry_tuple_getitem ?_ (args_tuple_getitem _ _)))
  show wpAny _ _ (Builtin.Tuple.tupleItemsOf (.ref t) >>= _) _ _ s
  refine wpAny_bind (tupleItemsOf_ ht ?_)
  refine wpAny_bind (wpAny_typeOf hTs ?_)
  rw [if_pos (by decide)]
  refine wpAny_bind (slice_back hs pl pu ps ?_)
  show wpAny _ _ (if (((items.size : Int) - 1) == 0 && (-1 : Int) == 1 && items.size == items.size) = true then _ else _) _ _ s
  rw [if_neg (by simp), pick_back]
  first
    | exact wpAny_bind (m := Builtin.Tuple.tupleExact _) (wpAny_newObj_type (wpAny_pure ⟨_, rfl, wpAny_pure h⟩) hok)
    | exact wpAny_bind (m := Builtin.Tuple.tupleExact _) (wpAny_newObj_type (wpAny_bind (wpAny_pure (wpAny_pure ⟨_, rfl, wpAny_pure h⟩))) hok)
    | exact wpAny_bind (wpAny_bind (m := Builtin.Tuple.tupleExact _) (wpAny_newObj_type (wpAny_pure (wpAny_pure ⟨_, rfl, wpAny_pure h⟩)) hok))
    | exact wpAny_bind (wpAny_bind (m := Builtin.Tuple.tupleExact _) (wpAny_newObj_type (wpAny_pure ⟨_, rfl, wpAny_pure h⟩) hok))
end
def tRevT (K : PySem.W.Frag) (te : TE) : TE := fun σ H Q => te σ H fun x H1 => ∃ a xs, x = .ref a ∧ SqT K H1 a xs ∧ ∀ p, H1 p = none → Q (.ref p) (upd H1 p (.tup xs.reverse))
theorem pe_revT {X : Cx} {e : Expr} {te : TE} {k : Nat} {p1 p2 p3 pos : Pos} (he : PE X e te) : PE X (.Subscript e (.Slice none none (some (.UnaryOp .USub (.Constant (.int 1) k p1) p2)) p3) pos) (tRevT X.K te) := by
  refine ⟨fun pins s σ H Q I h => Subscript_ (thn (he.run pins s σ H _ I h) fun v s1 ⟨x, H1, I1, r1, q1⟩ => ?_)⟩
  obtain ⟨a, xs, rfl, hx, q⟩ := q1
  cases r1
  have hst : PO X (some (.UnaryOp .USub (.Constant (.int 1) k p1) p2)) (tPart (tUn (rU fun i => .int (-i)) (tC (.int 1)))) := po_some (pe_un un_neg pe_int)
  refine wpAny_Slice (thn (po_none.run pins s1 σ H1 (fun o H2 => o = none ∧ H2 = H1) I1 ⟨rfl, rfl⟩) fun vl s2 ⟨l, H2, I2, pl, el, e2⟩ => ?_)
  subst el e2
  refine thn (po_none.run pins s2 σ H2 (fun o H3 => o = none ∧ H3 = H2) I2 ⟨rfl, rfl⟩) fun vu s3 ⟨u, H3, I3, pu, eu, e3⟩ => ?_
  subst eu e3
  refine thn (hst.run pins s3 σ H3 (fun o H4 => o = some (-1) ∧ H4 = H3) I3 ⟨1, rfl, -1, rfl, rfl, rfl⟩) fun vs s4 ⟨o, H4, I4, ps, eo, e4⟩ => ?_
  subst eo e4
  have I5 : Inv X pins σ H4 { s4 with heap := s4.heap.push { cls := .type "slice", data := .fields #[vl, vu, vs] } } := I4.kept (t' := s4.toks) fun b ob q => Heap.get?_push_of_some _ q
  obtain ⟨its, r, ht, hz⟩ := I5.tuple hx
  have hlen := r.length
  show wpAny (model X.prog X.w) X.A (subscriptTail e (.Slice none none (some (.UnaryOp .USub (.Constant (.int 1) k p1) p2)) p3) (.ref a) (.ref s4.heap.objs.size)) (EP X pins σ Q) X.xe { s4 with heap := s4.heap.push { cls := .type "slice", data := .fields #[vl, vu, vs] } }
  refine tail_any (ops := [.ref a, .ref s4.heap.objs.size]) ht.typeIs slot_tuple_getitem.lookup ?_ (by with_unfolding_all rfl)
  refine getItem_back ht (Heap.IsSliceOf.new _ vl vu vs) pl pu ps ?_ (by rw [List.size_toArray]; omega)
  refine ⟨.ref _, _, I5.laid (t' := s4.toks) (o := .tup xs.reverse) (fun b ob q => Heap.get?_push_of_some _ q) (Nat.le_refl _) ?_, rfl, q _ (I5.hok.fresh (Nat.le_refl _))⟩
  exact ⟨by rw [List.length_reverse]; exact hz, _, r.reverse, IsTup.new _ _⟩
section
variable {S : Stat} {γ : Gm} {e a b c c2 tg iter : Expr} {d : PyData} {ds es : List PyData} {pos p : Pos}
theorem e_revT {k : Nat} {p1 p2 p3 : Pos} (ha : EJ S γ a (.tuple ds)) : EJ S γ (.Subscript a (.Slice none none (some (.UnaryOp .USub (.Constant (.int 1) k p1) p2)) p3) pos) (.tuple ds.reverse) := fun σ H F at_ Q q =>
  wE_of (t := tRevT S.K (wE S a)) (fun X hX => hX.K ▸ pe_revT (pe_w hX)) (ha σ H F at_ _ fun v H1 F1 a1 x1 dv => by
    cases dv with
    | @tup q1 vs _ h1 h2 =>
    refine ⟨q1, vs, rfl, a1.hf.le.sqT h1, fun p2 hp => ?_⟩
    have x4 : Ex2 H1 F1 (upd H1 p2 (.tup vs.reverse)) (upd F1 p2 (.tup vs.reverse)) := ex_new a1.hf hp
    exact q _ _ _ (a1.ex x4 (a1.hf.new hp fun _ z => by cases z)) (x1.trans x4) (.tup (SqT.of upd_same) (h2.zrev.zmono x4.f)))
theorem e_revTT {α : Type} {enc : α → PyData} {xs : List α} {k : Nat} {p1 p2 p3 : Pos} (ha : EJ S γ a (.tuple (xs.map enc))) : EJ S γ (.Subscript a (.Slice none none (some (.UnaryOp .USub (.Constant (.int 1) k p1) p2)) p3) pos) (.tuple (xs.reverse.map enc)) := by
  rw [List.map_reverse]; exact e_revT ha
theorem f_revL {α : Type} {enc : α → PyData} {xs : List α} {k : Nat} {p1 p2 p3 : Pos} (ha : QJ S γ a .l (xs.map enc)) : FJ S γ (.Subscript a (.Slice none none (some (.UnaryOp .USub (.Constant (.int 1) k p1) p2)) p3) pos) (xs.reverse.map enc) := by
  rw [List.map_reverse]; exact f_rev ha

/-! ### sum, max, min of a tuple of ints -/
end
section
variable {prog : Program} {w : World} {A : Around} {E : Value → Shared → Prop} {s : Shared} {l : Addr} {its : List Value} {ns : List Int} {Q : Value → Shared → Prop}
theorem iter_tupW (hh : A.handled = none) {xs : Array (Int × Tok)} (hl : s.heap.IsTuple l (intItems xs)) {R : Value → Shared → Prop}
    (h : ∀ I s2, (∀ b o, s.heap.get? b = some o → s2.heap.get? b = some o) → s2 = { s with heap := s2.heap } → I = s.heap.objs.size → (∀ b ∈ [I, l], b < s2.heap.objs.size) → (s2.heap.IsTupleIter I l 0 ∧ s2.heap.IsTuple l (intItems xs)) → l ≠ I → R (.ref I) s2) : wpAny (model prog w) A (pyIter (.ref l)) R E s := by
  refine wpAny_pyIter_tuple hl ?_
  have hlt : l < s.heap.objs.size := by obtain ⟨o, ho, _⟩ := hl; exact Heap.lt_size ho
  refine h _ _ (fun b o q => Heap.get?_push_of_some _ q) rfl rfl (fun b hb => ?_) ⟨⟨_, Heap.get?_push_size _ rfl, rfl, rfl⟩, hl.push _⟩ (Nat.ne_of_lt hlt)
  show b < (s.heap.push _).objs.size
  rw [Heap.size_push]
  rcases List.mem_cons.mp hb with rfl | hb
  · exact Nat.lt_succ_self _
  · rcases List.mem_cons.mp hb with rfl | hb
    · exact Nat.lt_succ_of_lt hlt
    · cases hb
theorem kept_wr {s s2 : Shared} {h' : Heap} {I : Addr} (hI : I = s.heap.objs.size) (k1 : ∀ b o, s.heap.get? b = some o → s2.heap.get? b = some o) (k : ∀ b o, b ∉ [I] → s2.heap.get? b = some o → h'.get? b = some o) : ∀ b o, s.heap.get? b = some o → h'.get? b = some o := fun b o e =>
  k b o (fun hm => by
    have h1 := Heap.lt_size e
    rw [List.mem_singleton.mp hm, hI] at h1
    exact Nat.lt_irrefl _ h1) (k1 b o e)
theorem sum_tup (hh : A.handled = none) (hl : s.heap.IsTuple l its.toArray) (hi : IntsAre its ns)
    (h : ∀ h' tk t', (∀ b o, s.heap.get? b = some o → h'.get? b = some o) → Q (.int ns.sum t') { s with heap := h', toks := tk }) : wpAny (model prog w) A (call (.builtin "sum") [.ref l]) Q E s := by
  obtain ⟨xs, e⟩ := hi.allInts.items
  have hn : numsOf (intItems xs).toList = ns := by rw [← e]; exact hi.numsOf
  rw [nums_intItems] at hn
  rw [e] at hl
  refine call_sum_walkG (iter_tupW (A := A.in1) hh hl fun I s2 k1 es hI hfp st hne => ?_)
  refine ⟨_, _, _, _, _, _, numAt xs, rfl, Walks.tuple (A := A.in1) hh _ l hne (intItems xs), st, hfp, (fun _ _ => intItems_at), fun h' tk t' hk => ?_⟩
  have := h h' tk t' (kept_wr hI k1 hk)
  rw [es]
  have e9 : preSum (numAt xs) (intItems xs).size = ns.sum := by
    rw [preSum_eq, List.take_of_length_le (by simp [intItems]), hn]
  rw [e9]; exact this
theorem max_tup (hh : A.handled = none) (hl : s.heap.IsTuple l its.toArray) (hi : IntsAre its ns) (hne : 0 < ns.length)
    (h : ∀ h' tk M t', (∀ b o, s.heap.get? b = some o → h'.get? b = some o) → M ∈ ns → (∀ a, a ∈ ns → a ≤ M) → Q (.int M t') { s with heap := h', toks := tk }) : wpAny (model prog w) A (call (.builtin "max") [.ref l]) Q E s := by
  obtain ⟨xs, e⟩ := hi.allInts.items
  have hn : numsOf (intItems xs).toList = ns := by rw [← e]; exact hi.numsOf
  rw [nums_intItems] at hn
  subst hn
  rw [e] at hl
  have hsz : 0 < xs.size := by simpa using hne
  refine call_max_walk (iter_tupW (A := A.in1) hh hl fun I s2 k1 es hI hfp st hne2 => ?_)
  refine ⟨_, _, _, _, _, _, _, rfl, Walks.tuple (A := A.in1) hh _ l hne2 (intItems xs), st, hfp, by simpa [intItems] using hsz, CmpOf.ints_gt (numAt xs) (fun _ _ => intItems_at), fun v h' tk hP hk => ?_⟩
  obtain ⟨t, rfl⟩ := intItems_at hP
  have hs0 : (intItems xs).size - 1 = xs.size - 1 := by simp [intItems]
  rw [hs0]
  obtain ⟨h1, h2⟩ := argBest_gt (numAt xs) (xs.size - 1)
  rw [es]
  refine h h' tk _ t (kept_wr hI k1 hk) ?_ fun a ha => ?_
  · rw [numAt_eq]; exact PySem.getD_mem (by rw [List.length_map, Array.length_toList]; omega)
  · obtain ⟨j, hj, rfl⟩ := mem_getD ha
    rw [List.length_map, Array.length_toList] at hj
    rw [← numAt_eq]; exact h2 j (by omega)
end
section
variable {S : Stat} {γ : Gm} {a : Expr} {pos p : Pos}
def rSumT (K : PySem.W.Frag) : List V → Hp → VK → Prop := fun vs H Q => ∃ (a : Addr) (ns : List Int), vs = [V.ref a] ∧ SqT K H a (ns.map V.int) ∧ Q (.int ns.sum) H
theorem cr_sumT {X : Cx} (hc : X.calm = true) : CallR X (.builtin "sum") (rSumT X.K) := by
  intro pins s σ H vs us Q I r h
  obtain ⟨a, ns, rfl, hs, q⟩ := h
  obtain ⟨its, rv, hl, _⟩ := I.tuple hs
  rw [Vals.ref1 r]
  exact sum_tup (I.ok.hd hc) hl rv.ints fun h' tk t' hk => ⟨.int _, H, I.kept hk, ⟨_, rfl⟩, q⟩
theorem e_sumT {ns : List Int} (hg : IsGl S "sum") (hm : S.mg "sum" = none) (ha : EJ S γ a (.tuple (ns.map .int))) (hs : PlainE a) : EJ S γ (.Call (.Name "sum" p) [a] [] pos) (.int ns.sum) :=
  w_b1 (r := rSumT S.K) (fun X hX => hX.K ▸ cr_sumT hX.calm) hg hm boot_sum hs ha.qt (fun v H0 F0 H F Q at_ x ⟨q, vs, e1, h1, h2⟩ k2 => by
    subst e1
    obtain rfl := DpAll.ints h2
    exact ⟨q, ns, rfl, h1, k2 _ H F at_.hf (Ex2.refl H F) (.int _)⟩) (by decide) (by decide)
def rMaxT (K : PySem.W.Frag) : List V → Hp → VK → Prop := fun vs H Q => ∃ (a : Addr) (ns : List Int), vs = [V.ref a] ∧ SqT K H a (ns.map V.int) ∧ 0 < ns.length ∧ ∀ m, m ∈ ns → (∀ y, y ∈ ns → y ≤ m) → Q (.int m) H
theorem cr_maxT {X : Cx} (hc : X.calm = true) : CallR X (.builtin "max") (rMaxT X.K) := by
  intro pins s σ H vs us Q I r h
  obtain ⟨a, ns, rfl, hs, hne, q⟩ := h
  obtain ⟨its, rv, hl, _⟩ := I.tuple hs
  rw [Vals.ref1 r]
  exact max_tup (I.ok.hd hc) hl rv.ints hne fun h' tk m t' hk h1 h2 => ⟨.int _, H, I.kept hk, ⟨_, rfl⟩, q m h1 h2⟩
theorem e_maxT {ns : List Int} {m : Int} (hg : IsGl S "max") (hm : S.mg "max" = none) (ha : EJ S γ a (.tuple (ns.map .int))) (he : ns.max? = some m) (hs : PlainE a) : EJ S γ (.Call (.Name "max" p) [a] [] pos) (.int m) :=
  w_b1 (r := rMaxT S.K) (fun X hX => hX.K ▸ cr_maxT hX.calm) hg hm boot_max hs ha.qt (fun v H0 F0 H F Q at_ x ⟨q, vs, e1, h1, h2⟩ k2 => by
    subst e1
    obtain rfl := DpAll.ints h2
    obtain ⟨he1, he2⟩ := List.max?_eq_some_iff.mp he
    refine ⟨q, ns, rfl, h1, List.length_pos_of_mem he1, fun m' hm' hle => ?_⟩
    obtain rfl : m' = m := Int.le_antisymm (he2 m' hm') (hle m he1)
    exact k2 _ H F at_.hf (Ex2.refl H F) (.int _)) (by decide) (by decide)
end
end SM

set_option autoImplicit false
set_option Elab.async false
set_option linter.all false
set_option maxRecDepth 100000
set_option maxHeartbeats 4000000
namespace SM
open PySem PySem.Spec PyProof.Rows L2

/-! ### enumerate of a tuple -/
theorem meets_enum1 {v : Value} {o : Obj} {H : Heap → Prop} (B : Begins v o H) :
    Meets (Builtin.«enumerate.__new__» ⟨[.type "enumerate", v], []⟩) (fun _ R s => H s.heap ∧
      R (.ok (.ret (.ref (s.heap.push o).objs.size))) { s with heap := (s.heap.push o).push { cls := .type "enumerate", data := .fields #[.none, .bool false, .ref s.heap.objs.size, rawInt 0, .none, .none] } }) :=
  .of_wp fun prog w A R s h => by
    obtain ⟨hp, g, d, tk, os⟩ := s; obtain ⟨h1, h⟩ := h
    have hsub := sub_enumerate
    have q1 : ∀ {A' : Around} {E : Value → Shared → Prop} {Q : Value → Shared → Prop}, Q (.ref hp.objs.size) ⟨hp.push o, g, d, tk, os⟩ → wpAny (model prog w) A' (pyIter v) Q E ⟨hp, g, d, tk, os⟩ :=
      fun q => B.iter prog w _ _ ⟨hp, g, d, tk, os⟩ _ h1 q
    wp_walk using q1
    refine wpAny_stack_any fun st => wpAny_pure ?_
    split
    · rename_i c _ _ _ _ _
      cases (c == Value.type "enumerate")
      · wp_walk using q1
        exact ⟨_, rfl, h⟩
      · wp_walk using q1
        exact ⟨_, rfl, h⟩
    · wp_walk using q1
      exact ⟨_, rfl, h⟩
theorem call_enum1 {prog : Program} {w : World} {A : Around} {E : Value → Shared → Prop} {s : Shared} {v : Value} {o : Obj} {H : Heap → Prop} {Q : Value → Shared → Prop} (B : Begins v o H) (h1 : H s.heap)
    (h : ∀ h', IsEnum h' (s.heap.objs.size + 1) s.heap.objs.size 0 .none → h'.get? s.heap.objs.size = some o → h'.objs.size = s.heap.objs.size + 2 → (∀ b o, s.heap.get? b = some o → h'.get? b = some o) → Q (.ref (s.heap.objs.size + 1)) { s with heap := h' }) :
    wpAny (model prog w) A (call (.type "enumerate") [v]) Q E s := by
  refine callType_new F.called_enumerate (by decide) (F.typeCall_enumerate_1 _) (F.newCall_enumerate_1 _) (fun obj => F.args_object_init_2 obj _) F.entry_enumerate_new (meets_enum1 B) ⟨h1, ?_⟩
  have hz : (s.heap.push o).objs.size = s.heap.objs.size + 1 := Heap.size_push ..
  show _ ∧ _
  rw [hz]
  have he : IsEnum ((s.heap.push o).push { cls := .type "enumerate", data := .fields #[.none, .bool false, .ref s.heap.objs.size, rawInt 0, .none, .none] }) (s.heap.objs.size + 1) s.heap.objs.size 0 .none := by
    have e := Heap.get?_push_size (s.heap.push o) (o := { cls := .type "enumerate", data := .fields #[.none, .bool false, .ref s.heap.objs.size, rawInt 0, .none, .none] }) rfl
    rw [hz] at e; exact e
  exact ⟨⟨_, he, rfl⟩, h _ he (Heap.get?_push_of_some _ (Heap.get?_push_size _ B.free)) (by rw [Heap.size_push, hz]) fun b u x => Heap.get?_push_of_some _ (Heap.get?_push_of_some _ x)⟩
def IteT (K : PySem.W.Frag) (a : Addr) : It :=
  ⟨fun i H => ∃ (xs : List V) (x : V), SqT K H a xs ∧ xs[i]? = some x, fun i H v H' => ∃ T x, v = .ref T ∧ H T = none ∧ H' = upd H T (.tup [.int (i : Nat), x]) ∧ ∀ xs, SqT K H a xs → xs[i]? = some x, fun i H => ∃ xs : List V, SqT K H a xs ∧ xs.length = i⟩
theorem turn_enumT {P : Program} {w : World} {K : PySem.W.Frag} {elts : List Expr} {kk : Nat} {tpos : Pos} (a e it : Addr) :
    Turn P w K (.Tuple elts kk tpos) (IteT K a) [e, it] e (fun i h => (∃ old, IsEnum h e it ((i : Nat) : Int) old) ∧ h.IsTupleIter it a i ∧ e ≠ it ∧ a ≠ e ∧ a ≠ it) where
  mem := List.mem_cons_self
  obj := fun i h st b hb => by
    obtain ⟨⟨old, he⟩, ⟨o, ho, hc, hd⟩, _⟩ := st
    rcases List.mem_cons.mp hb with z | z
    · rw [z]; exact ⟨_, he, fun v q => nomatch q⟩
    · rw [List.mem_singleton.mp z]; exact ⟨o, ho, fun v q => by rw [hd] at q; cases q⟩
  keep := fun i h h' st k => by
    obtain ⟨⟨old, he⟩, hi, hne⟩ := st
    exact ⟨⟨old, k e List.mem_cons_self _ he⟩, hi.at fun o q => k it (List.mem_cons_of_mem _ List.mem_cons_self) o q, hne⟩
  item := by
    intro X hP hw hK hc i pins s σ H E I hf st hg
    subst hP hw hK
    obtain ⟨⟨old, he⟩, hit, hne, hae, hai⟩ := st
    obtain ⟨xs, x, hq, hx⟩ := hg
    obtain ⟨its, rv, p, hz⟩ := I.tuple hq
    obtain ⟨u, hu, ru⟩ := rv.get hx
    have hlen := rv.length
    have hel : e < s.heap.objs.size := Heap.lt_size he
    have hil : it < s.heap.objs.size := by obtain ⟨_, q, _⟩ := hit; exact Heap.lt_size q
    have hlt : i < its.toArray.size := by
      obtain ⟨h1, _⟩ := List.getElem?_eq_some_iff.mp hu
      rw [List.size_toArray]; exact h1
    refine wpAny_pyNext_enum_itemD (Draws.tuple (A := X.A.in1) (I.ok.hd hc) it a hai its.toArray) he ⟨hit, show s.heap.IsTuple a its.toArray from p⟩ hlt hne (fun z => by
      rcases List.mem_cons.mp z with z | z
      · exact hne z
      · exact hae (List.mem_singleton.mp z).symm) fun y h' tk hy ho hst' hT hsz hk => ?_
    obtain rfl : u = y := by
      have hy' : its.toArray[i]? = some y := hy
      rw [List.getElem?_toArray, hu] at hy'
      exact Option.some.inj hy'
    refine ⟨_, rfl, wpAny_letOwnedTupleGo_enum (s := { s with heap := h', toks := tk + 1 }) ho fun h'' he' sb => ?_⟩
    have hT2 : h''.get? s.heap.objs.size = some { cls := .type "tuple", data := .seq #[.int i tk, u] } := (sb.2 _ (Nat.ne_of_gt hel)).trans hT
    have new : ObjOk X.prog X.w (upd H s.heap.objs.size (.tup [.int (i : Nat), x])) h'' s.heap.objs.size (.tup [.int (i : Nat), x]) :=
      ⟨by show 2 ≤ sizeLine; decide, [.int i tk, u], .cons ⟨_, rfl⟩ (.cons ru .nil), ⟨_, hT2, rfl, _, rfl⟩⟩
    have ch : ∀ b, b ∉ [e, it] → b ≠ e ∧ b ≠ it := fun b hb => ⟨fun z => hb (by rw [z]; exact List.mem_cons_self), fun z => hb (by rw [z]; exact List.mem_cons_of_mem _ List.mem_cons_self)⟩
    have I1 : Inv X pins σ (upd H s.heap.objs.size (.tup [.int (i : Nat), x])) { s with heap := h'', toks := tk + 1 } :=
      I.turnedNew (ch := [e, it]) (fun b ob hb q => (sb.2 b (ch b hb).1).trans (hk b ob (ch b hb).1 (ch b hb).2 q)) hf (Nat.le_refl _) new
    refine ⟨.ref s.heap.objs.size, _, I1, rfl, ⟨_, x, rfl, I.hok.fresh (Nat.le_refl _), rfl, fun ys hy => by rw [I.tuple_inj hy hq]; exact hx⟩, ⟨⟨u, ?_⟩, hst'.1.at fun o q => (sb.2 it (Ne.symm hne)).trans q, hne, hae, hai⟩, fun b hb => ?_⟩
    · have e1 : ((i + 1 : Nat) : Int) = (i : Int) + 1 := by omega
      rw [e1]; exact he'
    · have hb' : b < s.heap.objs.size := by
        rcases List.mem_cons.mp hb with z | z
        · rw [z]; exact hel
        · rw [List.mem_singleton.mp z]; exact hil
      rw [upd_ne (Nat.ne_of_lt hb')]
      exact (hf b hb).1
  done := by
    intro X hP hw hK hc i pins s σ H E I hf st hg
    subst hP hw hK
    obtain ⟨⟨old, he⟩, hit, hne, hae, hai⟩ := st
    obtain ⟨xs, hq, hx⟩ := hg
    obtain ⟨its, rv, p, hz⟩ := I.tuple hq
    obtain ⟨f0, f1, f2, f3, f4, f5⟩ := hf it (List.mem_cons_of_mem _ List.mem_cons_self)
    have hl : i = its.toArray.size := by rw [List.size_toArray, ← rv.length]; exact hx.symm
    have hst2 : s.heap.IsTupleIter it a its.toArray.size ∧ s.heap.IsTuple a its.toArray := ⟨hl ▸ hit, p⟩
    exact wpAny_pyNext_enum_endD (Draws.tuple (A := X.A.in1) (I.ok.hd hc) it a hai its.toArray) he hst2 fun h' eb => ⟨rfl, I.turned (t' := s.toks) (fun b o hb q => eb b o hb q) f0 f1 f3 f4 f5⟩
  self := fun A i s Q E st h => by
    obtain ⟨⟨_, he⟩, _⟩ := st
    exact wpAny_pyIter_enum he h

def iEnumT (K : PySem.W.Frag) (ta : TA) : TI := fun σ H R => ta σ H fun vs H1 => ∃ a xs, vs = [.ref a] ∧ SqT K H1 a xs ∧ R (IteT K a) H1
theorem pi_enumT {X : Cx} {e : Expr} {ta : TA} {p pos tpos : Pos} {elts : List Expr} {kk : Nat} (hg : Gl X "enumerate") (hm : X.mg "enumerate" = none) (ha : PA X [e] ta) (hs : starEach [e] X.env = [(false, eval e X.env)]) :
    PI X (.Tuple elts kk tpos) (.Call (.Name "enumerate" p) [e] [] pos) (iEnumT X.K ta) := by
  refine ⟨fun pins s σ H R I h => Call_ (ld_blt I hg hm boot_enumerate (PyProof.Rows.callWith_type1 (thn (ha.run pos pins s σ H _ I h) fun us s1 ⟨vs, H1, I1, r1, q1⟩ => ?_) hs rfl))⟩
  obtain ⟨a, xs, rfl, hq, q⟩ := q1
  obtain ⟨u, rfl, r⟩ := vals1 r1
  cases r
  obtain ⟨its, rv, p', hz⟩ := I1.tuple hq
  have hal : a < s1.heap.objs.size := p'.lt
  refine call_enum1 (begins_tuple a its.toArray) (show s1.heap.IsTuple a its.toArray from p') fun h' he hit hsz hk => wpAny_pyIter_enum he ?_
  have I2 : Inv X pins σ H1 { s1 with heap := h' } := I1.kept (t' := s1.toks) hk
  refine ⟨s1.heap.objs.size + 1, [s1.heap.objs.size + 1, s1.heap.objs.size], _, _, H1, rfl, I2, turn_enumT a (s1.heap.objs.size + 1) s1.heap.objs.size,
    ⟨⟨.none, he⟩, ⟨_, hit, rfl, rfl⟩, Nat.succ_ne_self _, Nat.ne_of_lt (Nat.lt_succ_of_lt hal), Nat.ne_of_lt hal⟩, fun b hb => ?_, q⟩
  have hle : s1.heap.objs.size ≤ b := by
    rcases List.mem_cons.mp hb with z | z
    · rw [z]; exact Nat.le_add_right _ _
    · rw [List.mem_singleton.mp z]; exact Nat.le_refl _
  exact I1.fpOk hle (I1.hok.fresh hle)
theorem walk_enumT {K : PySem.W.Frag} {a : Addr} {xs : List V} : Walk (IteT K a) xs.length (fun H => SqT K H a xs) (YPair (fun i => some (.int (i : Nat))) (fun i => xs[i]?)) := by
  refine ⟨fun i _ hi q => ⟨xs, xs[i], q, List.getElem?_eq_getElem hi⟩, fun _ q => ⟨xs, q, rfl⟩, fun i H v H' _ q y => ?_⟩
  obtain ⟨T, x, h1, h2, h3, h4⟩ := y
  exact ⟨T, .int (i : Nat), x, h1, h2, h3, rfl, h4 xs q⟩
/-! ### what is walked, further -/
def enumD (ds : List PyData) : List PyData := ds.mapIdx fun i d => .tuple [.int (i : Int), d]
theorem enumD_len (ds : List PyData) : (enumD ds).length = ds.length := List.length_mapIdx
section
variable {S : Stat} {γ : Gm} {tg iter a b : Expr} {d : PyData} {ds es items : List PyData} {pos p tpos : Pos} {elts : List Expr} {kk : Nat}
theorem yd_enum {K : PySem.W.Frag} {F : Hp} {vs : List V} (h : DpAll K F vs ds) : ∀ i H x H', i < ds.length → YPair (fun i => some (.int (i : Nat))) (fun i => vs[i]?) i H x H' → YD K F (enumD ds) i H x H' := fun i H x H' hi ⟨T, u, v, e1, e2, e3, e4, e5⟩ => by
  obtain ⟨d, h1, h2⟩ := h.zget' e5
  have e4' : u = .int (i : Nat) := (Option.some.inj e4).symm
  refine ⟨.tuple [.int (i : Int), d], ?_, .inr ⟨T, [u, v], [.int (i : Int), d], e2, e3, e1, rfl, .cons ?_ (.cons h2 .nil)⟩⟩
  · unfold enumD; rw [List.getElem?_mapIdx, h1]; rfl
  · rw [e4']; exact .int _
theorem i_enumL (hg : IsGl S "enumerate") (hm : S.mg "enumerate" = none) (h : QJ S γ a .l ds) (hs : PlainE a) : IX S γ (.Tuple elts kk tpos) (.Call (.Name "enumerate" p) [a] [] pos) (enumD ds) := fun σ H F at_ R q =>
  wI_of (t := iEnum S.K (tCons (wE S a) tNil)) (fun X hX => hX.K ▸ pi_enum (hX.gl hg) (hX.mgn hm) (pa_cons (pe_w hX) pa_nil (hs [] X.env)) (hs [] X.env)) (h.sz σ H F at_ _ fun v H1 F1 a1 x1 ⟨⟨q1, vs, e1, h1, h2⟩, sz⟩ => by
    subst e1
    refine ⟨q1, vs, rfl, h1, q _ H1 F1 a1 x1 (by rw [enumD_len, ← h2.zlen]; exact sz q1 vs .l h1) ?_⟩
    rw [enumD_len, ← h2.zlen]
    exact walk_enum.mono (fun H' e => SqX.ext (k := .l) e h1) (by rw [h2.zlen]; exact fun i H x H' hi _ y => yd_enum h2 i H x H' hi y))
theorem i_enumS (hg : IsGl S "enumerate") (hm : S.mg "enumerate" = none) (h : EJ S γ a (.list ds)) (hs : PlainE a) : IF S γ (.Tuple elts kk tpos) (.Call (.Name "enumerate" p) [a] [] pos) (enumD ds) := fun σ H F at_ R q =>
  wI_of (t := iEnum S.K (tCons (wE S a) tNil)) (fun X hX => hX.K ▸ pi_enum (hX.gl hg) (hX.mgn hm) (pa_cons (pe_w hX) pa_nil (hs [] X.env)) (hs [] X.env)) (h.sz σ H F at_ _ fun v H1 F1 a1 x1 ⟨dv, sz⟩ => by
    cases dv with
    | @lst q1 vs _ h1 h2 =>
    refine ⟨q1, vs, rfl, a1.hf.le.sqL h1, q _ H1 F1 a1 x1 (by rw [enumD_len, ← h2.zlen]; exact sz q1 vs .l (a1.hf.le.sqL h1)) ?_⟩
    rw [enumD_len, ← h2.zlen]
    exact walk_enum.mono (fun H' e => e.sqL h1) (by rw [h2.zlen]; exact fun i H x H' hi _ y => yd_enum h2 i H x H' hi y))
theorem i_enumT (hg : IsGl S "enumerate") (hm : S.mg "enumerate" = none) (h : EJ S γ a (.tuple ds)) (hs : PlainE a) : IF S γ (.Tuple elts kk tpos) (.Call (.Name "enumerate" p) [a] [] pos) (enumD ds) := fun σ H F at_ R q =>
  wI_of (t := iEnumT S.K (tCons (wE S a) tNil)) (fun X hX => hX.K ▸ pi_enumT (hX.gl hg) (hX.mgn hm) (pa_cons (pe_w hX) pa_nil (hs [] X.env)) (hs [] X.env)) (h.sz σ H F at_ _ fun v H1 F1 a1 x1 ⟨dv, sz⟩ => by
    cases dv with
    | @tup q1 vs _ h1 h2 =>
    refine ⟨q1, vs, rfl, a1.hf.le.sqT h1, q _ H1 F1 a1 x1 (by rw [enumD_len, ← h2.zlen]; exact sz q1 vs .t (a1.hf.le.sqT h1)) ?_⟩
    rw [enumD_len, ← h2.zlen]
    exact walk_enumT.mono (fun H' e => e.sqT h1) (by rw [h2.zlen]; exact fun i H x H' hi _ y => yd_enum h2 i H x H' hi y))
/-- zip of two tuples -/
def zipD (ds es : List PyData) : List PyData := (ds.zip es).map fun p => .tuple [p.1, p.2]
theorem zipD_len (ds es : List PyData) : (zipD ds es).length = min ds.length es.length := by unfold zipD; rw [List.length_map, List.length_zip]
theorem yd_zip {K : PySem.W.Frag} {F : Hp} {vs us : List V} (h : DpAll K F vs ds) (h' : DpAll K F us es) : ∀ i H x H', YPair (fun i => vs[i]?) (fun i => us[i]?) i H x H' → YD K F (zipD ds es) i H x H' := fun i H x H' ⟨T, u, v, e1, e2, e3, e4, e5⟩ => by
  obtain ⟨d, h1, h2⟩ := h.zget' e4
  obtain ⟨d', h3, h4⟩ := h'.zget' e5
  refine ⟨.tuple [d, d'], ?_, .inr ⟨T, [u, v], [d, d'], e2, e3, e1, rfl, .cons h2 (.cons h4 .nil)⟩⟩
  unfold zipD
  rw [List.getElem?_map, (List.getElem?_zip_eq_some (z := (d, d'))).mpr ⟨h1, h3⟩]
  rfl
theorem walk_zipT {K : PySem.W.Frag} {a b : Addr} {xs ys : List V} {n : Nat} (hn : n = min xs.length ys.length) : Walk (RZ.ItzT K a b) n (fun H => SqT K H a xs ∧ SqT K H b ys) (YPair (fun i => xs[i]?) (fun i => ys[i]?)) := by
  subst hn
  refine ⟨fun i _ hi q => ?_, fun _ q => ⟨xs, ys, q.1, q.2, by omega⟩, fun i H v H' _ q y => ?_⟩
  · have h1 : i < xs.length := by omega
    have h2 : i < ys.length := by omega
    exact ⟨xs, ys, xs[i], ys[i], q.1, q.2, List.getElem?_eq_getElem h1, List.getElem?_eq_getElem h2⟩
  · obtain ⟨T, x, z, h1, h2, h3, h4, h5⟩ := y
    exact ⟨T, x, z, h1, h2, h3, h4 xs q.1, h5 ys q.2⟩
theorem i_zipT (hg : IsGl S "zip") (hm : S.mg "zip" = none) (ha : EJ S γ a (.tuple ds)) (hb : EJ S γ b (.tuple es)) (hs : PlainE a) (hs2 : PlainE b) (hpl : ∀ X : Cx, (backTo pos (starEach [b] X.env)).any (·.1) = false) : IF S γ (.Tuple elts kk tpos) (.Call (.Name "zip" p) [a, b] [] pos) (zipD ds es) := fun σ H F at_ R q =>
  wI_of (t := RZ.iZipA S.K (tCons (wE S a) (tCons (wE S b) tNil))) (fun X hX => hX.K ▸ RZ.pi_zipA (hX.gl hg) (hX.mgn hm) (pa_cons (pe_w hX) (pa_cons (pe_w hX) pa_nil (hs2 [] X.env)) (hs [b] X.env)) (hs [b] X.env) (hpl X)) (ha.sz σ H F at_ _ fun v H1 F1 a1 x1 ⟨dv, sz⟩ => hb σ H1 F1 a1 _ fun u H2 F2 a2 x2 du => by
    cases dv with
    | @tup q1 vs _ h1 h2 =>
    cases du with
    | @tup q2 us _ k1 k2 =>
    have h1' := x2.f.sqT h1
    refine ⟨q1, q2, vs, us, rfl, .inr ⟨a2.hf.le.sqT h1', a2.hf.le.sqT k1, q _ H2 F2 a2 (x1.trans x2) ?_ ?_⟩⟩
    · rw [zipD_len, ← h2.zlen]
      exact Nat.le_trans (Nat.min_le_left _ _) (sz q1 vs .t (a1.hf.le.sqT h1))
    · exact (walk_zipT (xs := vs) (ys := us) (by rw [zipD_len, h2.zlen, k2.zlen])).mono (fun H' e => ⟨e.sqT h1', e.sqT k1⟩) fun i H x H' hi _ y => yd_zip (h2.zmono x2.f) k2 i H x H' y)
end

/-! ### a < b < c < d -/
section
variable {S : Stat} {γ : Gm} {a b c e : Expr} {pos : Pos}
theorem pe_chain3 {X : Cx} {op1 op2 op3 : CmpOp} {g1 g2 g3 : Int → Int → Bool} (ho1 : OpR X (compareOp op1) (rI0 fun i j => .bl (g1 i j))) (ho2 : OpR X (compareOp op2) (rI0 fun i j => .bl (g2 i j))) (ho3 : OpR X (compareOp op3) (rI0 fun i j => .bl (g3 i j))) {ta tb tc te : TE} (ha : PE X a ta) (hb : PE X b tb) (hc : PE X c tc) (he : PE X e te)
    (hm : lastMarks [op1, op2, op3] [b, c, e] = false) : PT X (.Compare a [op1, op2, op3] [b, c, e] pos) (fun σ H Q => ta σ H fun x H1 => tb σ H1 fun y H2 => ∃ i j, x = .int i ∧ y = .int j ∧
      if g1 i j = true then tc σ H2 fun z H3 => ∃ k, z = .int k ∧ if g2 j k = true then te σ H3 fun u H4 => ∃ l, u = .int l ∧ Q (g3 k l) H4 else Q false H3 else Q false H2) := by
  refine ⟨fun pins s σ H Q I h => ?_⟩
  refine isTrue_chain (thn (ha.run pins s σ H _ I h) fun v s1 ⟨x, H1, I1, r1, q1⟩ => test_link (thn (hb.run pins s1 σ H1 _ I1 q1) fun u s2 ⟨y, H2, I2, r2, i, j, ei, ej, q2⟩ => ?_)) hm
  subst ei; subst ej
  refine thn (ho1 pins s2 σ H2 _ _ v u (fun d H' => d = .bl (g1 i j) ∧ H' = H2) I2 r1 r2 ⟨i, j, rfl, rfl, rfl, rfl⟩) fun d s3 ⟨z, H3, I3, r3, ez, eh⟩ => ?_
  subst ez; subst eh
  cases r3
  refine wpAny_truthy_bool ?_
  cases hg1 : g1 i j with
  | false => rw [hg1, if_neg Bool.false_ne_true] at q2; exact ite_ff ⟨H3, I3, q2⟩
  | true =>
    rw [hg1, if_pos rfl] at q2
    refine ite_tt (test_link (thn (hc.run pins s3 σ H3 _ I3 q2) fun w' s4 ⟨z', H4, I4, r4, k, ek, q4⟩ => ?_))
    subst ek
    refine thn (ho2 pins s4 σ H4 _ _ u w' (fun d H' => d = .bl (g2 j k) ∧ H' = H4) I4 r2 r4 ⟨j, k, rfl, rfl, rfl, rfl⟩) fun d s5 ⟨z5, H5, I5, r5, ez, eh⟩ => ?_
    subst ez; subst eh
    cases r5
    refine wpAny_truthy_bool ?_
    cases hg2 : g2 j k with
    | false => rw [hg2, if_neg Bool.false_ne_true] at q4; exact ite_ff ⟨H5, I5, q4⟩
    | true =>
      rw [hg2, if_pos rfl] at q4
      refine ite_tt (test_last (thn (he.run pins s5 σ H5 _ I5 q4) fun w6 s6 ⟨z6, H6, I6, r6, l, el, q6⟩ => ?_))
      subst el
      refine thn (ho3 pins s6 σ H6 _ _ w' w6 (fun d H' => d = .bl (g3 k l) ∧ H' = H6) I6 r4 r6 ⟨k, l, rfl, rfl, rfl, rfl⟩) fun d s7 ⟨z7, H7, I7, r7, ez, eh⟩ => ?_
      subst ez; subst eh
      cases r7
      exact wpAny_truthy_bool ⟨H7, I7, q6⟩
theorem t_chain3 {op1 op2 op3 : CmpOp} {g1 g2 g3 : Int → Int → Bool} {x y z u : Int} (ho1 : ∀ X : Cx, OpR X (compareOp op1) (rI0 fun i j => .bl (g1 i j))) (ho2 : ∀ X : Cx, OpR X (compareOp op2) (rI0 fun i j => .bl (g2 i j))) (ho3 : ∀ X : Cx, OpR X (compareOp op3) (rI0 fun i j => .bl (g3 i j)))
    (ha : EJ S γ a (.int x)) (hb : EJ S γ b (.int y)) (hc : EJ S γ c (.int z)) (he : EJ S γ e (.int u)) (hm : lastMarks [op1, op2, op3] [b, c, e] = false) : TJ S γ (.Compare a [op1, op2, op3] [b, c, e] pos) (g1 x y && (g2 y z && g3 z u)) := fun σ H F at_ Q q =>
  wT_of (fun X hX => pe_chain3 (ho1 X) (ho2 X) (ho3 X) (pe_w hX) (pe_w hX) (pe_w hX) (pe_w hX) hm) (ha σ H F at_ _ fun v H1 F1 a1 x1 d1 => hb σ H1 F1 a1 _ fun w H2 F2 a2 x2 d2 => by
    cases d1; cases d2
    refine ⟨x, y, rfl, rfl, ?_⟩
    cases h1 : g1 x y with
    | false => rw [if_neg Bool.false_ne_true]; rw [h1] at q; exact q H2 F2 a2 (x1.trans x2)
    | true =>
      rw [if_pos rfl]
      refine hc σ H2 F2 a2 _ fun v3 H3 F3 a3 x3 d3 => ?_
      cases d3
      refine ⟨z, rfl, ?_⟩
      cases h2 : g2 y z with
      | false => rw [if_neg Bool.false_ne_true]; rw [h1, h2] at q; exact q H3 F3 a3 ((x1.trans x2).trans x3)
      | true =>
        rw [if_pos rfl]
        refine he σ H3 F3 a3 _ fun v4 H4 F4 a4 x4 d4 => ?_
        cases d4
        rw [h1, h2] at q
        exact ⟨u, rfl, q H4 F4 a4 (((x1.trans x2).trans x3).trans x4)⟩)
end
end SM

set_option autoImplicit false
set_option Elab.async false
set_option linter.all false
set_option maxRecDepth 100000
set_option maxHeartbeats 4000000
namespace SM
open PySem PySem.Spec PyProof.Rows L2

/-! ### the data of typed values -/
abbrev eI : Int → PyData := PyData.int
abbrev eB : Bool → PyData := PyData.bool
abbrev eS : Str → PyData := PyData.str
abbrev eN : Unit → PyData := fun _ => .none
abbrev eD : PyData → PyData := fun d => d
abbrev eL {α : Type} (e : α → PyData) (xs : List α) : PyData := .list (xs.map e)
abbrev eT {α : Type} (e : α → PyData) (xs : List α) : PyData := .tuple (xs.map e)
abbrev eO {α : Type} (e : α → PyData) : Option α → PyData
  | none => .none
  | some x => e x
abbrev eP2 {α β : Type} (e1 : α → PyData) (e2 : β → PyData) (p : α × β) : PyData := .tuple [e1 p.1, e2 p.2]
abbrev eP3 {α β γ : Type} (e1 : α → PyData) (e2 : β → PyData) (e3 : γ → PyData) (p : α × β × γ) : PyData := .tuple [e1 p.1, e2 p.2.1, e3 p.2.2]
abbrev eP4 {α β γ δ : Type} (e1 : α → PyData) (e2 : β → PyData) (e3 : γ → PyData) (e4 : δ → PyData) (p : α × β × γ × δ) : PyData := .tuple [e1 p.1, e2 p.2.1, e3 p.2.2.1, e4 p.2.2.2]
theorem isN_oT {α : Type} {e : α → PyData} {x : Option (List α)} : isN (eO (eT e) x) = x.isNone := by cases x <;> rfl
theorem isN_oL {α : Type} {e : α → PyData} {x : Option (List α)} : isN (eO (eL e) x) = x.isNone := by cases x <;> rfl
theorem isN_oI {x : Option Int} : isN (eO eI x) = x.isNone := by cases x <;> rfl
theorem isN_oP2 {α β : Type} {e1 : α → PyData} {e2 : β → PyData} {x : Option (α × β)} : isN (eO (eP2 e1 e2) x) = x.isNone := by cases x <;> rfl
theorem isN_oP3 {α β γ : Type} {e1 : α → PyData} {e2 : β → PyData} {e3 : γ → PyData} {x : Option (α × β × γ)} : isN (eO (eP3 e1 e2 e3) x) = x.isNone := by cases x <;> rfl
theorem isN_oP4 {α β γ δ : Type} {e1 : α → PyData} {e2 : β → PyData} {e3 : γ → PyData} {e4 : δ → PyData} {x : Option (α × β × γ × δ)} : isN (eO (eP4 e1 e2 e3 e4) x) = x.isNone := by cases x <;> rfl

/-! ### what may fail -/
def mulO (x y : Int) : Option Int := if (-2 ^ 64 < x ∧ x < 2 ^ 64) ∨ (-2 ^ 64 < y ∧ y < 2 ^ 64) then some (x * y) else none
theorem mulO_c {x y z : Int} (h : mulO x y = some z) : CMul x y ∧ x * y = z := by
  unfold mulO at h
  split at h
  · exact ⟨by assumption, Option.some.inj h⟩
  · cases h
def fdivO (x y : Int) : Option Int := if 0 < y ∧ y < 1073741824 then some (x / y) else none
theorem fdivO_c {x y z : Int} (h : fdivO x y = some z) : CDiv x y ∧ x / y = z := by
  unfold fdivO at h
  split at h
  · exact ⟨by assumption, Option.some.inj h⟩
  · cases h
def modO (x y : Int) : Option Int := if 0 < y then some (x % y) else none
theorem modO_c {x y z : Int} (h : modO x y = some z) : 0 < y ∧ x % y = z := by
  unfold modO at h
  split at h
  · exact ⟨by assumption, Option.some.inj h⟩
  · cases h
def powO (x y : Int) : Option Int := if 0 ≤ y ∧ y ≤ 1000000 ∧ x.natAbs < 2 ^ 64 then some (x ^ y.toNat) else none
theorem powO_c {x y z : Int} (h : powO x y = some z) : CPow x y ∧ x ^ y.toNat = z := by
  unfold powO at h
  split at h
  · exact ⟨by assumption, Option.some.inj h⟩
  · cases h
def catO {α : Type} (xs ys : List α) : Option (List α) := if xs.length + ys.length ≤ 16777216 then some (xs ++ ys) else none
theorem catO_c {α : Type} {xs ys zs : List α} (h : catO xs ys = some zs) : xs.length + ys.length ≤ sizeLine ∧ xs ++ ys = zs := by
  unfold catO at h
  split at h
  · exact ⟨by assumption, Option.some.inj h⟩
  · cases h
def appO {α : Type} (xs : List α) (x : α) : Option (List α) := if xs.length < 16777216 then some (xs ++ [x]) else none
theorem appO_c {α : Type} {xs zs : List α} {x : α} (h : appO xs x = some zs) : xs.length < sizeLine ∧ xs ++ [x] = zs := by
  unfold appO at h
  split at h
  · exact ⟨by assumption, Option.some.inj h⟩
  · cases h
def repO {α : Type} (x : α) (n : Int) : Option (List α) := if n ≤ 16777216 ∧ -16777216 ≤ n then some (List.replicate n.toNat x) else none
theorem repO_c {α : Type} {x : α} {n : Int} {zs : List α} (h : repO x n = some zs) : (n ≤ 16777216 ∧ -16777216 ≤ n) ∧ List.replicate n.toNat x = zs := by
  unfold repO at h
  split at h
  · exact ⟨by assumption, Option.some.inj h⟩
  · cases h
def rngO (lo hi : Int) : Option (List Int) := if -8388608 ≤ lo ∧ lo ≤ 8388608 ∧ -8388608 ≤ hi ∧ hi ≤ 8388608 then some (rng lo hi) else none
theorem rngO_c {lo hi : Int} {xs : List Int} (h : rngO lo hi = some xs) : RgB lo hi ∧ rng lo hi = xs := by
  unfold rngO at h
  split at h
  · exact ⟨by assumption, Option.some.inj h⟩
  · cases h
def andO (x y : Option Bool) : Option Bool := x.bind fun k => if k = true then y else some false
def orO (x y : Option Bool) : Option Bool := x.bind fun k => if k = true then some true else y
def enumI {α : Type} (xs : List α) : List (Int × α) := xs.mapIdx fun i x => ((i : Int), x)
theorem enumD_map {α : Type} {e : α → PyData} {xs : List α} : enumD (xs.map e) = (enumI xs).map (eP2 eI e) := by
  unfold enumD enumI
  apply List.ext_getElem?
  intro i
  simp only [List.getElem?_mapIdx, List.getElem?_map]
  cases xs[i]? <;> rfl
theorem zipD_map {α β : Type} {e1 : α → PyData} {e2 : β → PyData} {xs : List α} {ys : List β} : zipD (xs.map e1) (ys.map e2) = (xs.zip ys).map (eP2 e1 e2) := by
  unfold zipD
  rw [List.zip_map, List.map_map]
  rfl
section
variable {S : Stat} {γ : Gm} {a b c e tg iter : Expr} {rest es : List Expr} {pos p : Pos} {d : PyData} {ds : List PyData} {k : SK} {α β τ : Type} {enc : α → PyData}
theorem e_mulO {x y z : Int} (ha : EJ S γ a (.int x)) (hb : EJ S γ b (.int y)) (h : mulO x y = some z) : EJ S γ (.BinOp a .Mult b pos) (.int z) := by
  obtain ⟨h1, h2⟩ := mulO_c h
  subst h2; exact e_mul ha hb h1
theorem e_fdivO {x y z : Int} (ha : EJ S γ a (.int x)) (hb : EJ S γ b (.int y)) (h : fdivO x y = some z) : EJ S γ (.BinOp a .FloorDiv b pos) (.int z) := by
  obtain ⟨h1, h2⟩ := fdivO_c h
  subst h2; exact e_fdiv ha hb h1
theorem e_modO {x y z : Int} (ha : EJ S γ a (.int x)) (hb : EJ S γ b (.int y)) (h : modO x y = some z) : EJ S γ (.BinOp a .Mod b pos) (.int z) := by
  obtain ⟨h1, h2⟩ := modO_c h
  subst h2; exact e_mod ha hb h1
theorem e_powO {x y z : Int} (ha : EJ S γ a (.int x)) (hb : EJ S γ b (.int y)) (h : powO x y = some z) : EJ S γ (.BinOp a .Pow b pos) (.int z) := by
  obtain ⟨h1, h2⟩ := powO_c h
  subst h2; exact e_pow ha hb h1
theorem f_catO {xs ys zs : List α} (ha : QJ S γ a .l (xs.map enc)) (hb : QJ S γ b .l (ys.map enc)) (h : catO xs ys = some zs) : FJ S γ (.BinOp a .Add b pos) (zs.map enc) := by
  obtain ⟨h1, h2⟩ := catO_c h
  subst h2; exact f_catT ha hb h1
theorem e_catO {xs ys zs : List α} (ha : EJ S γ a (.tuple (xs.map enc))) (hb : EJ S γ b (.tuple (ys.map enc))) (h : catO xs ys = some zs) : EJ S γ (.BinOp a .Add b pos) (.tuple (zs.map enc)) := by
  obtain ⟨h1, h2⟩ := catO_c h
  subst h2; exact e_catTT ha hb h1
theorem f_repO {x : α} {n : Int} {zs : List α} (ha : FJ S γ a [enc x]) (hb : EJ S γ b (.int n)) (h : repO x n = some zs) : FJ S γ (.BinOp a .Mult b pos) (zs.map enc) := by
  obtain ⟨h1, h2⟩ := repO_c h
  subst h2
  rw [List.map_replicate]
  exact f_rep ha hb h1.1 h1.2
theorem i_range1O {y : Int} {xs : List Int} (hg : IsGl S "range") (hm : S.mg "range" = none) (ha : EJ S γ a (.int y)) (hs : PlainE a) (h : rngO 0 y = some xs) : IF S γ tg (.Call (.Name "range" p) [a] [] pos) (xs.map eI) := by
  obtain ⟨h1, h2⟩ := rngO_c h
  subst h2; exact i_range1 hg hm ha hs h1
theorem i_range2O {x y : Int} {xs : List Int} (hg : IsGl S "range") (hm : S.mg "range" = none) (ha : EJ S γ a (.int x)) (hb : EJ S γ b (.int y)) (hs : PlainE a) (hs2 : PlainE b) (h : rngO x y = some xs) : IF S γ tg (.Call (.Name "range" p) [a, b] [] pos) (xs.map eI) := by
  obtain ⟨h1, h2⟩ := rngO_c h
  subst h2; exact i_range2 hg hm ha hb hs hs2 h1
theorem FJ.of {ds' : List PyData} (h : FJ S γ e ds) (e1 : ds = ds') : FJ S γ e ds' := e1 ▸ h
theorem QJ.of {ds' : List PyData} (h : QJ S γ e k ds) (e1 : ds = ds') : QJ S γ e k ds' := e1 ▸ h
theorem IW.of {G : Hp → Hp → Hp → Prop} {ds' : List PyData} (h : IW G S γ tg iter ds) (e1 : ds = ds') : IW G S γ tg iter ds' := e1 ▸ h
theorem TJ.of {k k' : Bool} (h : TJ S γ e k) (e1 : k = k') : TJ S γ e k' := e1 ▸ h
/-- an Option that is there -/
theorem EJ.some {o : Option α} {x : α} (h : EJ S γ e (eO enc o)) (e1 : o = some x) : EJ S γ e (enc x) := by subst e1; exact h
theorem EJ.into {x : α} (h : EJ S γ e (enc x)) : EJ S γ e (eO enc (Option.some x)) := h
/-! tests that may fail -/
def TOp (S : Stat) (γ : Gm) (e : Expr) (o : Option Bool) : Prop := ∀ k, o = some k → TJ S γ e k
def WOp (S : Stat) (γ : Gm) (e : Expr) (o : Option Bool) : Prop := ∀ k, o = some k → WJ S γ e k
theorem to_some {k : Bool} (h : TJ S γ a k) : TOp S γ a (some k) := fun y hy => by cases hy; exact h
theorem to_bind {o : Option τ} {f : τ → Option Bool} (h : ∀ t, o = some t → TOp S γ a (f t)) : TOp S γ a (o.bind f) := fun y hy => by
  obtain ⟨t, h1, h2⟩ := Option.bind_eq_some_iff.mp hy
  exact h t h1 y h2
theorem to_w {o : Option Bool} (h : WOp S γ a o) : TOp S γ a o := fun y hy => t_w (h y hy)
theorem to_not {o : Option Bool} (h : TOp S γ a o) : TOp S γ (.UnaryOp .Not a pos) (o.map not) := fun y hy => by
  cases o with
  | none => cases hy
  | some k => cases hy; exact t_not (h k rfl)
theorem wo_and1 {o : Option Bool} (h : TOp S γ a o) : WOp S γ (.BoolOp .And [a] pos) o := fun y hy => w_and1 (h y hy)
theorem wo_or1 {o : Option Bool} (h : TOp S γ a o) : WOp S γ (.BoolOp .Or [a] pos) o := fun y hy => w_or1 (h y hy)
theorem wo_and {o o2 : Option Bool} (h : TOp S γ a o) (h2 : o = some true → WOp S γ (.BoolOp .And (b :: rest) pos) o2) : WOp S γ (.BoolOp .And (a :: b :: rest) pos) (andO o o2) := fun y hy => by
  cases o with
  | none => cases hy
  | some k =>
    cases k with
    | true =>
      have hy : o2 = some y := hy
      exact w_and (k := true) (h true rfl) fun _ => h2 rfl y hy
    | false =>
      cases hy
      exact w_and (k := false) (l := true) (h false rfl) fun z => by cases z
theorem wo_or {o o2 : Option Bool} (h : TOp S γ a o) (h2 : o = some false → WOp S γ (.BoolOp .Or (b :: rest) pos) o2) : WOp S γ (.BoolOp .Or (a :: b :: rest) pos) (orO o o2) := fun y hy => by
  cases o with
  | none => cases hy
  | some k =>
    cases k with
    | true =>
      cases hy
      exact w_or (k := true) (l := true) (h true rfl) fun z => by cases z
    | false =>
      have hy : o2 = some y := hy
      have := w_or (k := false) (l := y) (pos := pos) (h false rfl) fun _ => h2 rfl y hy
      rwa [Bool.false_or] at this
theorem eo_one {op : BoolOp} {o : Option Bool} (h : EO S γ a eB o) : EO S γ (.BoolOp op [a] pos) eB o := fun y hy => e_one (h y hy)
theorem eo_and {o o2 : Option Bool} (h : EO S γ a eB o) (h2 : o = some true → EO S γ (.BoolOp .And (b :: rest) pos) eB o2) : EO S γ (.BoolOp .And (a :: b :: rest) pos) eB (andO o o2) := fun y hy => by
  cases o with
  | none => cases hy
  | some k =>
    cases k with
    | true =>
      have hy : o2 = some y := hy
      exact e_and (k := true) (h true rfl) fun _ => h2 rfl y hy
    | false =>
      cases hy
      exact e_and (k := false) (l := true) (h false rfl) fun z => by cases z
theorem eo_or {o o2 : Option Bool} (h : EO S γ a eB o) (h2 : o = some false → EO S γ (.BoolOp .Or (b :: rest) pos) eB o2) : EO S γ (.BoolOp .Or (a :: b :: rest) pos) eB (orO o o2) := fun y hy => by
  cases o with
  | none => cases hy
  | some k =>
    cases k with
    | true =>
      cases hy
      exact e_or (k := true) (l := true) (h true rfl) fun z => by cases z
    | false =>
      have hy : o2 = some y := hy
      have := e_or (k := false) (l := y) (pos := pos) (h false rfl) fun _ => h2 rfl y hy
      rw [Bool.false_or] at this
      exact this
theorem TOp.elim {o : Option Bool} {x : Bool} (h : TOp S γ e o) (hx : o = some x) : TJ S γ e x := h x hx
theorem j_appO {ss : List Stmt} {post : β → Post} {o : Option β} {xs zs : List α} {v : α} {x : Str} {j : Nat} {pa pc pn : Pos} (hN : S.N[j]? = some x) (hv : Vis S.sc x) (hg : γ[j]? = some (.ow (.list (xs.map enc)))) (h : EJ S γ e (enc v)) (hz : appO xs v = some zs) (hs : PlainE e) (hd : (x == ("__debug__" : Str)) = false) (hcd : (x == ("__classdict__" : Str)) = false)
    (hba : ∀ X : Cx, attributeBase (.Name x pn) "append" X.env (eval (.Name x pn) X.env) = eval (.Name x pn) X.env) (hli : (pa.endLine == pc.line) = true) (hr : J S (γ.set j (.ow (.list (zs.map enc)))) ss post o) : J S γ (.Expr (.Call (.Attribute (.Name x pn) "append" pa) [e] [] pc) pos :: ss) post o := by
  obtain ⟨h1, h2⟩ := appO_c hz
  subst h2
  exact j_app hN hv hg h h1 hs hd hcd hba hli hr
theorem j_to {γ2 : Gm} {ss : List Stmt} {post : β → Post} {o : Option β} (w : γ = γ2) (h : J S γ2 ss post o) : J S γ ss post o := w ▸ h
end

/-! ### defs that are known -/
def Known (P : Program) (w : World) (K : PySem.W.Frag) (mg : Str → Option Value) (base : Heap) (tabs : List Addr) (lv : Nat) (x : Str) (n : Nat) (R : List PyData → PyData → Prop) : Prop :=
  ∃ f fd ps, ps.length = n ∧ FnOk P w K mg base CX0 lv f fd ps (spR K tabs ps.length R) ∧ mg x = some (.ref f) ∧ PySem.W.keepIn K (.ref f) = true ∧ Binds K fd ps []
def GDef (K : PySem.W.Frag) (mg : Str → Option Value) (x : Str) (st : Stmt) (ps : List Str) : Prop := ∃ f fd, Fun K x x st f fd ∧ Binds K fd ps [] ∧ mg x = some (.ref f)
theorem known_of {P : Program} {w : World} {K : PySem.W.Frag} {mg : Str → Option Value} {base : Heap} {tabs : List Addr} {k : Nat} {x : Str} {st : Stmt} {N ps : List Str} {R : List PyData → PyData → Prop} (D : GDef K mg x st ps) (Sc : FnScope N ps (defScope st))
    (hb : ∀ (cdv : Value) (B F0 : Hp) (ds : List PyData) (r : PyData), ds.length = ps.length → R ds r → SJ (Stat.of P w K mg base N (defScope st) k tabs cdv B F0) (gm0 N.length ds) (defBody st) ⟨fun _ => r = .none, fun d => d = r⟩) : Known P w K mg base tabs (k + 1) x ps.length R := by
  obtain ⟨f, fd, F, b, m⟩ := D
  exact ⟨f, fd, ps, rfl, def_ok F Sc hb, m, F.kp, b⟩
theorem e_callK {S : Stat} {γ : Gm} {e : Expr} {es : List Expr} {ds : List PyData} {d : PyData} {pos p : Pos} {x : Str} {k n : Nat} {R : List PyData → PyData → Prop} (G : Known S.P S.w S.K S.mg S.base S.tabs k x n R) (hk : k ≤ S.k) (hg : IsGl S x)
    (ha : AJ S γ (e :: es) ds) (hr : R ds d) (hl : ds.length = n) (hs : PlainE e) (hpl : ∀ X : Cx, (backTo pos (starEach es X.env)).any (·.1) = false) (hdb : (x == ("__debug__" : Str)) = false) : EJ S γ (.Call (.Name x p) (e :: es) [] pos) d := by
  obtain ⟨f, fd, ps, hn, G, m, kp, b⟩ := G
  exact e_call G hk hg m kp b ha hr (hl.trans hn.symm) hs hpl hdb
theorem J.body {S : Stat} {γ : Gm} {ss : List Stmt} {ρ : Type} {enc : ρ → PyData} {o : Option ρ} {y : ρ} (h : J S γ ss (pT enc) o) (hy : o = some y) : SJ S γ ss ⟨fun _ => enc y = .none, fun d => d = enc y⟩ := (h y hy).imp (fun _ z => z.elim) fun _ z => z
end SM

set_option autoImplicit false
set_option Elab.async false
set_option linter.all false
set_option maxRecDepth 100000
set_option maxHeartbeats 4000000
namespace SM
open PySem PySem.Spec PyProof.Rows L2
/-! ### the law's own equality -/
mutual
def lawIs (v : PyData) : PyData → Bool
  | .none => isN v
  | .bool b => match v with | .bool c => decide (c = b) | _ => false
  | .int i => match v with | .int j => decide (j = i) | _ => false
  | .str s => match v with | .str t => decide (t = s) | _ => false
  | .tuple ds => match v with | .tuple vs => lawAll vs ds | _ => false
  | .list ds => match v with | .tuple vs => lawAll vs ds | _ => false
  | .dict _ => false
def lawAll : List PyData → List PyData → Bool
  | [], [] => true
  | v :: vs, d :: ds => lawIs v d && lawAll vs ds
  | _, _ => false
end
def okD : Nat → PyData → Bool
  | _, .none => true
  | _, .bool _ => true
  | _, .int _ => true
  | _, .str _ => true
  | k + 1, .tuple ds => decide (ds.length ≤ 8388608) && ds.all (okD k)
  | k + 1, .list ds => decide (ds.length ≤ 8388608) && ds.all (okD k)
  | _, _ => false
def m__law_is (v d : PyData) : Option Bool := if okD 6 d = true then some (lawIs v d) else none
theorem lawAll_len : ∀ {vs ds : List PyData}, vs.length ≠ ds.length → lawAll vs ds = false
  | [], [], h => absurd rfl h
  | [], _ :: _, _ => by simp [lawAll]
  | _ :: _, [], _ => by simp [lawAll]
  | v :: vs, d :: ds, h => by
    rw [lawAll, lawAll_len (by simpa using h), Bool.and_false]
theorem lawAll_zip : ∀ {vs ds : List PyData}, vs.length = ds.length → ((vs.zip ds).map fun p => lawIs p.1 p.2).all id = lawAll vs ds
  | [], [], _ => by simp [lawAll]
  | v :: vs, d :: ds, h => by
    rw [lawAll, List.zip_cons_cons, List.map_cons, List.all_cons, lawAll_zip (by simpa using h)]; rfl
section
variable {S : Stat} {γ : Gm} {sa rest : List Stmt} {c : Expr} {pos : Pos} {α : Type} {post : α → Post} {o : Option α}
theorem j_ifT (hc : TJ S γ c true) (h : J S γ sa (fun x => (post x).noNx) o) : J S γ (.If c sa [] pos :: rest) post o := by
  have := j_ifR (rest := rest) (post := post) (pos := pos) (o1 := o) (o2 := none) hc (fun _ => h) (fun z => by cases z)
  rwa [if_pos rfl] at this
theorem j_ifF (hc : TJ S γ c false) (h : J S γ rest post o) : J S γ (.If c sa [] pos :: rest) post o := by
  have := j_ifR (sa := sa) (post := post) (pos := pos) (o1 := none) (o2 := o) hc (fun z => by cases z) (fun _ => h)
  rwa [if_neg Bool.false_ne_true] at this
end
theorem atI_pos {α : Type} {xs : List α} {i : Int} (h : 0 ≤ i) : atI xs i = xs[i.toNat]? := by
  unfold atI ixN
  rw [if_pos h]
  split
  · rfl
  · rw [List.getElem?_eq_none (by omega)]; rfl
theorem compM_get' {α β : Type} {f : α → Option (Option β)} {g : α → β} : ∀ {xs : List α}, (∀ x ∈ xs, f x = some (some (g x))) → compM f xs = some (xs.map g)
  | [], _ => by simp [compM]
  | x :: xs, h => by
    have e1 := h x List.mem_cons_self
    have e2 := compM_get' (f := f) (g := g) (xs := xs) fun y hy => h y (List.mem_cons_of_mem _ hy)
    simp [compM, e1, e2]
theorem mem_rng {lo hi i : Int} : i ∈ rng lo hi ↔ lo ≤ i ∧ i < hi := by
  unfold rng
  simp only [List.mem_map, List.mem_range]
  constructor
  · rintro ⟨k, h1, h2⟩; omega
  · rintro ⟨h1, h2⟩; exact ⟨(i - lo).toNat, by omega, by omega⟩
theorem rng_map_get {α β : Type} {xs : List α} {g : α → β} {n : Int} (hn : n = xs.length) [Inhabited β] : (rng 0 n).map (fun i => ((xs[i.toNat]?).map g).getD default) = xs.map g := by
  subst hn
  unfold rng
  rw [List.map_map]
  apply List.ext_getElem?
  intro i
  simp only [List.getElem?_map, List.getElem?_range, Int.sub_zero, Int.toNat_natCast, Function.comp]
  by_cases hi : i < xs.length
  · rw [List.getElem?_range (by simpa using hi), List.getElem?_eq_getElem hi]
    simp [hi]
  · rw [List.getElem?_eq_none (by simpa using hi), List.getElem?_eq_none (by omega)]
    rfl
theorem compM_at {α β : Type} {xs : List α} {g : α → β} {n : Int} (hn : n = xs.length) : compM (fun i => (atI xs i).bind fun p => some (some (g p))) (rng 0 n) = some (xs.map g) := by
  subst hn
  cases hx : xs with
  | nil => simp [rng, compM]
  | cons x r =>
    rw [← hx]
    haveI : Inhabited β := ⟨g x⟩
    rw [← rng_map_get (g := g) rfl]
    refine compM_get' fun i hi => ?_
    rw [mem_rng] at hi
    rw [atI_pos hi.1, List.getElem?_eq_getElem (by omega)]
    rfl
theorem atI_zip {α β : Type} {xs : List α} {ys : List β} {i : Int} {p : α × β} (h0 : 0 ≤ i) (h : atI (xs.zip ys) i = some p) : atI xs i = some p.1 ∧ atI ys i = some p.2 := by
  rw [atI_pos h0] at h ⊢
  rw [atI_pos h0]
  exact List.getElem?_zip_eq_some.mp h
theorem mem_at {α : Type} {xs : List α} {i : Int} {x : α} (h : atI xs i = some x) : x ∈ xs := by
  unfold atI at h
  obtain ⟨j, _, h2⟩ := Option.bind_eq_some_iff.mp h
  exact List.mem_of_getElem? h2
theorem is_bool {v : PyData} (h : isInst "bool" v = true) : ∃ c, v = .bool c := by cases v <;> first | exact ⟨_, rfl⟩ | exact Bool.noConfusion (show (false : Bool) = true from h)
theorem is_str {v : PyData} (h : isInst "str" v = true) : ∃ c, v = .str c := by cases v <;> first | exact ⟨_, rfl⟩ | exact Bool.noConfusion (show (false : Bool) = true from h)
theorem is_tup {v : PyData} (h : isInst "tuple" v = true) : ∃ c, v = .tuple c := by cases v <;> first | exact ⟨_, rfl⟩ | exact Bool.noConfusion (show (false : Bool) = true from h)
theorem is_int {v : PyData} (h : (isInst "int" v && !isInst "bool" v) = true) : ∃ c, v = .int c := by cases v <;> first | exact ⟨_, rfl⟩ | exact Bool.noConfusion (show (false : Bool) = true from h)
theorem no_bool {v : PyData} {b : Bool} (h : isInst "bool" v = false) : lawIs v (.bool b) = false := by
  cases v <;> first | (simp [lawIs]; done) | exact Bool.noConfusion (show (true : Bool) = false from h)
theorem no_int {v : PyData} {b : Int} (h : (isInst "int" v && !isInst "bool" v) = false) : lawIs v (.int b) = false := by
  cases v <;> first | (simp [lawIs]; done) | exact Bool.noConfusion (show (true : Bool) = false from h)
theorem no_str {v : PyData} {b : Str} (h : isInst "str" v = false) : lawIs v (.str b) = false := by
  cases v <;> first | (simp [lawIs]; done) | exact Bool.noConfusion (show (true : Bool) = false from h)
theorem no_tup {v : PyData} {b : List PyData} (h : isInst "tuple" v = false) : lawIs v (.tuple b) = false ∧ lawIs v (.list b) = false := by
  cases v <;> first | (simp [lawIs]; done) | exact Bool.noConfusion (show (true : Bool) = false from h)
theorem kit_int (d : PyData) : kitB (tyN d) "int" = some (isInst "int" d) := by
  cases d <;> (unfold isInst; simp only [tyN]; decide +kernel)
theorem kit_bool (d : PyData) : kitB (tyN d) "bool" = some (isInst "bool" d) := by
  cases d <;> (unfold isInst; simp only [tyN]; decide +kernel)
theorem kit_str (d : PyData) : kitB (tyN d) "str" = some (isInst "str" d) := by
  cases d <;> (unfold isInst; simp only [tyN]; decide +kernel)
theorem kit_tuple (d : PyData) : kitB (tyN d) "tuple" = some (isInst "tuple" d) := by
  cases d <;> (unfold isInst; simp only [tyN]; decide +kernel)
theorem kit_list (d : PyData) : kitB (tyN d) "list" = some (isInst "list" d) := by
  cases d <;> (unfold isInst; simp only [tyN]; decide +kernel)
theorem sp_start {K : PySem.W.Frag} {H : Hp} {a : Addr} {nss : List Int} {R : List PyData → PyData → Prop} {E : XK} (ho : Only H) (hS : SqL K H a (nss.map V.int)) (hR : R [.list (nss.map .int)] (.bool true)) : spR K [] 1 R [.ref a] H (fun v _ => v = .bl true) E := by
  have dpI : ∀ ns : List Int, DpAll K H (ns.map V.int) (ns.map PyData.int) := fun ns => by
    induction ns with
    | nil => exact .nil
    | cons x r ih => exact .cons (.int x) ih
  exact ⟨rfl, H, _, _, ⟨fun a o h => h, fun a ps z => by
    rcases ho a with h | ⟨o, xs, h⟩ <;> (rw [h] at z; cases z)⟩, (fun P hP => by cases hP), .cons (.lst hS (dpI nss)) .nil, hR, fun v H' F' _ _ dv => by cases dv; rfl⟩
theorem len_le {ds : List PyData} {n : Nat} (h : ds.length = n) (hn : n ≤ 16777216) : ds.length ≤ sizeLine := h ▸ hn
end SM

set_option autoImplicit false
set_option Elab.async false
set_option linter.all false
set_option maxRecDepth 100000
set_option maxHeartbeats 4000000
namespace SM
open PySem PySem.Spec PyProof.Rows L2

/-! ### loops, in plain Lean -/
section
variable {α β τ ρ : Type}
theorem fold_inv {f : β → τ → Option β} {xs : List τ} {t0 : β} (I : List τ → β → Prop) (h0 : I [] t0) (hs : ∀ p x q t, xs = p ++ x :: q → I p t → ∃ t', f t x = some t' ∧ I (p ++ [x]) t') : ∃ t, xs.foldlM f t0 = some t ∧ I xs t := by
  have key : ∀ (ys p : List τ) (t : β), xs = p ++ ys → I p t → ∃ t', ys.foldlM f t = some t' ∧ I xs t' := by
    intro ys
    induction ys with
    | nil => intro p t e h; exact ⟨t, rfl, by rw [e, List.append_nil]; exact h⟩
    | cons y ys ih =>
      intro p t e h
      obtain ⟨t1, h1, h2⟩ := hs p y ys t e h
      obtain ⟨t2, h3, h4⟩ := ih (p ++ [y]) t1 (by rw [e, List.append_assoc]; rfl) h2
      exact ⟨t2, by rw [List.foldlM_cons, h1]; exact h3, h4⟩
  exact key xs [] t0 rfl h0
theorem fold_tot {f : β → τ → Option β} {xs : List τ} {g : β → τ → β} {t0 : β} (h : ∀ t, ∀ x ∈ xs, f t x = some (g t x)) : xs.foldlM f t0 = some (xs.foldl g t0) := by
  induction xs generalizing t0 with
  | nil => rfl
  | cons x xs ih =>
    rw [List.foldlM_cons, h t0 x List.mem_cons_self]
    exact ih fun t y hy => h t y (List.mem_cons_of_mem _ hy)
theorem rng_succ (lo : Int) (n : Nat) : rng lo (lo + ((n + 1 : Nat) : Int)) = rng lo (lo + (n : Int)) ++ [lo + (n : Int)] := by
  unfold rng
  rw [show (lo + ((n + 1 : Nat) : Int) - lo).toNat = n + 1 by omega, show (lo + (n : Int) - lo).toNat = n by omega, List.range_succ, List.map_append]
  rfl
theorem rng_neg {lo hi : Int} (h : hi ≤ lo) : rng lo hi = [] := by
  unfold rng
  rw [show (hi - lo).toNat = 0 by omega]; rfl
theorem rng_cons {lo hi : Int} (h : lo < hi) : rng lo hi = lo :: rng (lo + 1) hi := by
  unfold rng
  rw [show (hi - lo).toNat = (hi - (lo + 1)).toNat + 1 by omega, List.range_succ_eq_map, List.map_cons, List.map_map]
  congr 1
  · omega
  · apply List.map_congr_left
    intro a _
    simp only [Function.comp]; omega
theorem foldlM_snoc {f : β → τ → Option β} {xs : List τ} {x : τ} {t : β} : (xs ++ [x]).foldlM f t = (xs.foldlM f t).bind fun t' => f t' x := by
  rw [List.foldlM_append]
  cases xs.foldlM f t with
  | none => rfl
  | some a =>
    show (do let t' ← List.foldlM f a [x]; pure t') = f a x
    rw [List.foldlM_cons]
    cases f a x <;> rfl
theorem fold_rng {f : β → Int → Option β} {n : Nat} {t0 : β} (I : Nat → β → Prop) (h0 : I 0 t0) (hs : ∀ k t, k < n → I k t → ∃ t', f t (k : Int) = some t' ∧ I (k + 1) t') : ∃ t, (rng 0 (n : Int)).foldlM f t0 = some t ∧ I n t := by
  induction n with
  | zero => exact ⟨t0, by rw [rng_neg (lo := 0) (hi := ((0 : Nat) : Int)) (by decide)]; rfl, h0⟩
  | succ n ih =>
    obtain ⟨t, h1, h2⟩ := ih fun k t hk => hs k t (Nat.lt_succ_of_lt hk)
    obtain ⟨t', h3, h4⟩ := hs n t (Nat.lt_succ_self n) h2
    refine ⟨t', ?_, h4⟩
    have e := rng_succ 0 n
    simp only [Int.zero_add] at e
    rw [e, foldlM_snoc, h1]
    exact h3
theorem foldR_snoc {f : β → τ → Option (Res ρ β)} : ∀ {xs : List τ} {x : τ} {t t1 : β}, foldR f t xs = some (.nx t1) → foldR f t (xs ++ [x]) = f t1 x
  | [], x, t, t1, h => by
    cases h
    show (f t x).bind _ = f t x
    cases f t x with
    | none => rfl
    | some r => cases r <;> rfl
  | y :: ys, x, t, t1, h => by
    unfold foldR at h
    show foldR f t (y :: (ys ++ [x])) = _
    unfold foldR
    cases hy : f t y with
    | none => rw [hy] at h; cases h
    | some r =>
      rw [hy] at h
      cases r with
      | ret r => cases h
      | nx t2 => exact foldR_snoc (xs := ys) h
theorem foldR_inv {f : β → τ → Option (Res ρ β)} {xs : List τ} {t0 : β} (I : List τ → β → Prop) (h0 : I [] t0) (hs : ∀ p x q t, xs = p ++ x :: q → I p t → ∃ t', f t x = some (.nx t') ∧ I (p ++ [x]) t') : ∃ t, foldR f t0 xs = some (.nx t) ∧ I xs t := by
  have key : ∀ (ys p : List τ) (t : β), xs = p ++ ys → I p t → ∃ t', foldR f t ys = some (.nx t') ∧ I xs t' := by
    intro ys
    induction ys with
    | nil => intro p t e h; exact ⟨t, rfl, by rw [e, List.append_nil]; exact h⟩
    | cons y ys ih =>
      intro p t e h
      obtain ⟨t1, h1, h2⟩ := hs p y ys t e h
      obtain ⟨t2, h3, h4⟩ := ih (p ++ [y]) t1 (by rw [e, List.append_assoc]; rfl) h2
      exact ⟨t2, by unfold foldR; rw [h1]; exact h3, h4⟩
  exact key xs [] t0 rfl h0
theorem foldR_nx {f : Unit → τ → Option (Res ρ Unit)} {xs : List τ} (hs : ∀ x ∈ xs, f () x = some (.nx ())) : foldR f () xs = some (.nx ()) := by
  obtain ⟨t, h1, _⟩ := foldR_inv (f := f) (xs := xs) (t0 := ()) (fun _ _ => True) trivial fun p x q t e _ => ⟨(), hs x (by rw [e]; simp), trivial⟩
  exact h1
theorem foldR_rng {f : β → Int → Option (Res ρ β)} {n : Nat} {t0 : β} (I : Nat → β → Prop) (h0 : I 0 t0) (hs : ∀ k t, k < n → I k t → ∃ t', f t (k : Int) = some (.nx t') ∧ I (k + 1) t') : ∃ t, foldR f t0 (rng 0 (n : Int)) = some (.nx t) ∧ I n t := by
  induction n with
  | zero => exact ⟨t0, by rw [rng_neg (lo := 0) (hi := ((0 : Nat) : Int)) (by decide)]; rfl, h0⟩
  | succ n ih =>
    obtain ⟨t, h1, h2⟩ := ih fun k t hk => hs k t (Nat.lt_succ_of_lt hk)
    obtain ⟨t', h3, h4⟩ := hs n t (Nat.lt_succ_self n) h2
    refine ⟨t', ?_, h4⟩
    have e := rng_succ 0 n
    simp only [Int.zero_add] at e
    rw [e, foldR_snoc h1]
    exact h3
/-- the first that answers -/
def asR (o : Option ρ) : Res ρ Unit := match o with | some r => .ret r | none => .nx ()
theorem foldR_find {f : Unit → τ → Option (Res ρ Unit)} {h : τ → Option ρ} : ∀ {xs : List τ}, (∀ x ∈ xs, f () x = some (asR (h x))) → foldR f () xs = some (asR (xs.findSome? h))
  | [], _ => rfl
  | x :: xs, hs => by
    unfold foldR
    rw [hs x List.mem_cons_self, List.findSome?_cons]
    cases h x with
    | some r => rfl
    | none => exact foldR_find fun y hy => hs y (List.mem_cons_of_mem _ hy)
theorem compM_ok {f : τ → Option (Option β)} {g : τ → Option β} : ∀ {xs : List τ}, (∀ x ∈ xs, f x = some (g x)) → compM f xs = some (xs.filterMap g)
  | [], _ => by simp [compM]
  | x :: xs, h => by
    have e1 := h x List.mem_cons_self
    have e2 := compM_ok (f := f) (g := g) (xs := xs) fun y hy => h y (List.mem_cons_of_mem _ hy)
    cases hg : g x <;> simp [compM, e1, e2, hg]
end
theorem ex_bind {α β : Type} {o : Option α} {f : α → Option β} {x : α} {Q : β → Prop} (h : o = some x) (h2 : ∃ y, f x = some y ∧ Q y) : ∃ y, o.bind f = some y ∧ Q y := by subst h; exact h2
theorem bnd {α β : Type} {o : Option α} {f : α → Option β} {x : α} {r : Option β} (h : o = some x) (h2 : f x = r) : o.bind f = r := by subst h; exact h2
theorem itf {α : Type} {c : Bool} {a b r : α} (h : c = false) (h2 : b = r) : (if c = true then a else b) = r := by subst h; rw [if_neg Bool.false_ne_true]; exact h2
theorem itt {α : Type} {c : Bool} {a b r : α} (h : c = true) (h2 : a = r) : (if c = true then a else b) = r := by subst h; rw [if_pos rfl]; exact h2
section
variable {α β τ ρ δ : Type}
theorem ex_fold_rng {f : β → Int → Option β} {n : Nat} {t0 : β} {g : β → Option δ} {Q : δ → Prop} (I : Nat → β → Prop) (h0 : I 0 t0) (hs : ∀ k t, k < n → I k t → ∃ t', f t (k : Int) = some t' ∧ I (k + 1) t') (hg : ∀ t, I n t → ∃ y, g t = some y ∧ Q y) : ∃ y, ((rng 0 (n : Int)).foldlM f t0).bind g = some y ∧ Q y := by
  obtain ⟨t, h1, h2⟩ := fold_rng I h0 hs
  exact ex_bind h1 (hg t h2)
theorem ex_fold {f : β → τ → Option β} {xs : List τ} {t0 : β} {g : β → Option δ} {Q : δ → Prop} (I : List τ → β → Prop) (h0 : I [] t0) (hs : ∀ p x q t, xs = p ++ x :: q → I p t → ∃ t', f t x = some t' ∧ I (p ++ [x]) t') (hg : ∀ t, I xs t → ∃ y, g t = some y ∧ Q y) : ∃ y, (xs.foldlM f t0).bind g = some y ∧ Q y := by
  obtain ⟨t, h1, h2⟩ := fold_inv I h0 hs
  exact ex_bind h1 (hg t h2)
theorem fold_bnd {f : β → τ → Option β} {xs : List τ} {t0 : β} {g : β → Option δ} {r : Option δ} (I : List τ → β → Prop) (h0 : I [] t0) (hs : ∀ p x q t, xs = p ++ x :: q → I p t → ∃ t', f t x = some t' ∧ I (p ++ [x]) t') (hg : ∀ t, I xs t → g t = r) : (xs.foldlM f t0).bind g = r := by
  obtain ⟨t, h1, h2⟩ := fold_inv I h0 hs
  exact bnd h1 (hg t h2)
theorem fold_rng_bnd {f : β → Int → Option β} {n : Nat} {t0 : β} {g : β → Option δ} {r : Option δ} (I : Nat → β → Prop) (h0 : I 0 t0) (hs : ∀ k t, k < n → I k t → ∃ t', f t (k : Int) = some t' ∧ I (k + 1) t') (hg : ∀ t, I n t → g t = r) : ((rng 0 (n : Int)).foldlM f t0).bind g = r := by
  obtain ⟨t, h1, h2⟩ := fold_rng I h0 hs
  exact bnd h1 (hg t h2)
/-- a loop that only looks, and finds nothing -/
theorem foldR_bnd {f : Unit → τ → Option (Res ρ Unit)} {xs : List τ} {g : Res ρ Unit → Option δ} {r : Option δ} (hs : ∀ x ∈ xs, f () x = some (.nx ())) (hg : g (.nx ()) = r) : (foldR f () xs).bind g = r := bnd (foldR_nx hs) hg
end
section
variable {β δ : Type}
theorem fold_rngI {f : β → Int → Option β} {hi : Int} {t0 : β} {g : β → Option δ} {r : Option δ} (I : Nat → β → Prop) (hn : 0 ≤ hi) (h0 : I 0 t0) (hs : ∀ (k : Nat) t, (k : Int) < hi → I k t → ∃ t', f t (k : Int) = some t' ∧ I (k + 1) t') (hg : ∀ t, I hi.toNat t → g t = r) : ((rng 0 hi).foldlM f t0).bind g = r := by
  obtain ⟨n, rfl⟩ := Int.eq_ofNat_of_zero_le hn
  exact fold_rng_bnd I h0 (fun k t hk => hs k t (by omega)) hg
theorem ex_fold_rngI {f : β → Int → Option β} {hi : Int} {t0 : β} {g : β → Option δ} {Q : δ → Prop} (I : Nat → β → Prop) (hn : 0 ≤ hi) (h0 : I 0 t0) (hs : ∀ (k : Nat) t, (k : Int) < hi → I k t → ∃ t', f t (k : Int) = some t' ∧ I (k + 1) t') (hg : ∀ t, I hi.toNat t → ∃ y, g t = some y ∧ Q y) : ∃ y, ((rng 0 hi).foldlM f t0).bind g = some y ∧ Q y := by
  obtain ⟨n, rfl⟩ := Int.eq_ofNat_of_zero_le hn
  exact ex_fold_rng I h0 (fun k t hk => hs k t (by omega)) hg
end
theorem compM_ex {α β : Type} {f : α → Option (Option β)} {Q : β → Prop} : ∀ {xs : List α}, (∀ x ∈ xs, ∃ y, f x = some (some y) ∧ Q y) → ∃ ys, compM f xs = some ys ∧ ys.length = xs.length ∧ ∀ y ∈ ys, Q y
  | [], _ => ⟨[], by simp [compM], rfl, fun y hy => by cases hy⟩
  | x :: xs, h => by
    obtain ⟨y, h1, h2⟩ := h x List.mem_cons_self
    obtain ⟨ys, h3, h4, h5⟩ := compM_ex (f := f) (Q := Q) (xs := xs) fun z hz => h z (List.mem_cons_of_mem _ hz)
    refine ⟨y :: ys, by simp [compM, h1, h3], by rw [List.length_cons, h4]; rfl, fun z hz => ?_⟩
    rcases List.mem_cons.mp hz with e | e
    · rw [e]; exact h2
    · exact h5 z e
/-! ### small parts -/
theorem rngO_eq {lo hi : Int} (h : -8388608 ≤ lo ∧ lo ≤ 8388608 ∧ -8388608 ≤ hi ∧ hi ≤ 8388608) : rngO lo hi = some (rng lo hi) := by unfold rngO; rw [if_pos h]
theorem catO_eq {α : Type} {xs ys : List α} (h : xs.length + ys.length ≤ 16777216) : catO xs ys = some (xs ++ ys) := by unfold catO; rw [if_pos h]
theorem appO_eq {α : Type} {xs : List α} {x : α} (h : xs.length < 16777216) : appO xs x = some (xs ++ [x]) := by unfold appO; rw [if_pos h]
theorem modO_eq {x y : Int} (h : 0 < y) : modO x y = some (x % y) := by unfold modO; rw [if_pos h]
theorem mulO_eq {x y : Int} (h : (-2 ^ 64 < x ∧ x < 2 ^ 64) ∨ (-2 ^ 64 < y ∧ y < 2 ^ 64)) : mulO x y = some (x * y) := by unfold mulO; rw [if_pos h]
theorem atI_lt {α : Type} {xs : List α} {i : Int} (h : 0 ≤ i) (h2 : i < xs.length) : ∃ x, atI xs i = some x ∧ x ∈ xs ∧ xs[i.toNat]? = some x := by
  rw [atI_pos h, List.getElem?_eq_getElem (show i.toNat < xs.length by omega)]
  exact ⟨_, rfl, List.getElem_mem _, rfl⟩
theorem atI_n {α : Type} {xs : List α} (k : Nat) : atI xs (k : Int) = xs[k]? := by rw [atI_pos (by omega)]; rfl
theorem andO_t {y : Option Bool} : andO (some true) y = y := rfl
theorem andO_f {y : Option Bool} : andO (some false) y = some false := rfl
theorem orO_t {y : Option Bool} : orO (some true) y = some true := rfl
theorem orO_f {y : Option Bool} : orO (some false) y = y := rfl
theorem headO {α : Type} {xs : List α} : (if (decide ((0 : Int) < ((List.length xs : Nat) : Int))) = true then ((atI xs (0 : Int)).bind fun t => some (some t)) else some none) = some xs.head? := by
  cases xs with
  | nil => rfl
  | cons x r =>
    rw [if_pos (by rw [decide_eq_true_iff, List.length_cons]; omega), show (0 : Int) = ((0 : Nat) : Int) from rfl, atI_n]
    rfl
theorem cut_take {α : Type} {xs : List α} {i : Int} (h : 0 ≤ i) : cut xs none (some i) = xs.take i.toNat := by
  obtain ⟨k, rfl⟩ := Int.eq_ofNat_of_zero_le h
  unfold cut
  rw [HT.sIx_none, HT.sIx_nat, List.drop_zero, Nat.sub_zero, Int.toNat_natCast]
  apply List.ext_getElem?
  intro j
  simp only [List.getElem?_take]
  split <;> split <;> first | rfl | omega | skip
  rw [List.getElem?_eq_none (by omega)]
theorem cut_drop {α : Type} {xs : List α} {i : Int} (h : 0 ≤ i) : cut xs (some i) none = xs.drop i.toNat := by
  obtain ⟨k, rfl⟩ := Int.eq_ofNat_of_zero_le h
  unfold cut
  rw [HT.sIx_none, HT.sIx_nat, Int.toNat_natCast, List.take_of_length_le (by rw [List.length_drop]; omega)]
  by_cases hk : k ≤ xs.length
  · rw [Nat.min_eq_left hk]
  · rw [Nat.min_eq_right (by omega), List.drop_length, List.drop_of_length_le (by omega)]
theorem cut_mid {α : Type} {xs : List α} {i j : Int} (h : 0 ≤ i) (h2 : 0 ≤ j) : cut xs (some i) (some j) = (xs.drop i.toNat).take (j.toNat - i.toNat) := by
  obtain ⟨a, rfl⟩ := Int.eq_ofNat_of_zero_le h
  obtain ⟨b, rfl⟩ := Int.eq_ofNat_of_zero_le h2
  unfold cut
  rw [HT.sIx_nat, HT.sIx_nat, Int.toNat_natCast, Int.toNat_natCast]
  apply List.ext_getElem?
  intro m
  simp only [List.getElem?_take, List.getElem?_drop]
  by_cases hm : m < b - a ∧ a + m < xs.length
  · rw [if_pos (by omega), if_pos hm.1, show min a xs.length = a by omega]
  · by_cases h3 : m < b - a
    · rw [if_pos h3, List.getElem?_eq_none (show xs.length ≤ a + m by omega)]
      split
      · rw [List.getElem?_eq_none (by omega)]
      · rfl
    · rw [if_neg h3, if_neg (by omega)]
theorem cut_len {α : Type} {xs : List α} {l u : Option Int} : (cut xs l u).length ≤ xs.length := by
  unfold cut
  rw [List.length_take, List.length_drop]; omega
/-! ### the law's own equality, on what is typed -/
theorem is_eB {x y : Bool} : m__law_is (eB x) (eB y) = some (decide (x = y)) := by simp [m__law_is, okD, lawIs]
theorem is_eI {x y : Int} : m__law_is (eI x) (eI y) = some (decide (x = y)) := by simp [m__law_is, okD, lawIs]
/-- what can be told apart by the law -/
structure IsEq {α : Type} (e : α → PyData) : Prop where
  is : ∀ x y, lawIs (e x) (e y) = true ↔ x = y
theorem IsEq.dec {α : Type} [DecidableEq α] {e : α → PyData} (h : IsEq e) (x y : α) : lawIs (e x) (e y) = decide (x = y) := by
  rw [Bool.eq_iff_iff, decide_eq_true_iff]; exact h.is x y
theorem isEq_I : IsEq eI := ⟨fun x y => by simp [lawIs]⟩
theorem isEq_B : IsEq eB := ⟨fun x y => by simp [lawIs]⟩
theorem isEq_S : IsEq eS := ⟨fun x y => by simp [lawIs]⟩
theorem lawAll_map {α : Type} {e : α → PyData} (h : IsEq e) : ∀ xs ys : List α, lawAll (xs.map e) (ys.map e) = true ↔ xs = ys
  | [], [] => by simp [lawAll]
  | [], _ :: _ => by simp [lawAll]
  | _ :: _, [] => by simp [lawAll]
  | x :: xs, y :: ys => by simp [lawAll, h.is, lawAll_map h xs ys]
theorem isEq_T {α : Type} {e : α → PyData} (h : IsEq e) : IsEq (eT e) := ⟨fun x y => by simp only [lawIs]; exact lawAll_map h x y⟩
theorem isEq_P2 {α β : Type} {e1 : α → PyData} {e2 : β → PyData} (h1 : IsEq e1) (h2 : IsEq e2) : IsEq (eP2 e1 e2) := ⟨fun x y => by
  obtain ⟨a, b⟩ := x; obtain ⟨c, d⟩ := y
  simp [lawIs, lawAll, h1.is, h2.is]⟩
theorem isEq_P3 {α β γ : Type} {e1 : α → PyData} {e2 : β → PyData} {e3 : γ → PyData} (h1 : IsEq e1) (h2 : IsEq e2) (h3 : IsEq e3) : IsEq (eP3 e1 e2 e3) := ⟨fun x y => by
  obtain ⟨a, b, c⟩ := x; obtain ⟨a', b', c'⟩ := y
  simp [lawIs, lawAll, h1.is, h2.is, h3.is]⟩
theorem isEq_O {α : Type} {e : α → PyData} (h : IsEq e) (hn : ∀ x, isN (e x) = false) (hn2 : ∀ x, lawIs .none (e x) = false) : IsEq (eO e) := ⟨fun x y => by
  cases x with
  | none =>
    cases y with
    | none => simp [eO, lawIs, isN]
    | some y => simp [eO, hn2]
  | some x =>
    cases y with
    | none => simp only [eO, lawIs, hn]; simp
    | some y => simp [eO, h.is]⟩
theorem isEq_OT {α : Type} {e : α → PyData} (h : IsEq e) : IsEq (eO (eT e)) := isEq_O (isEq_T h) (fun _ => rfl) fun _ => by simp [lawIs]
theorem isEq_OP2 {α β : Type} {e1 : α → PyData} {e2 : β → PyData} (h1 : IsEq e1) (h2 : IsEq e2) : IsEq (eO (eP2 e1 e2)) := isEq_O (isEq_P2 h1 h2) (fun _ => rfl) fun _ => by simp [lawIs]
theorem isEq_OP3 {α β γ : Type} {e1 : α → PyData} {e2 : β → PyData} {e3 : γ → PyData} (h1 : IsEq e1) (h2 : IsEq e2) (h3 : IsEq e3) : IsEq (eO (eP3 e1 e2 e3)) := isEq_O (isEq_P3 h1 h2 h3) (fun _ => rfl) fun _ => by simp [lawIs]
theorem isEq_OI : IsEq (eO eI) := isEq_O isEq_I (fun _ => rfl) fun _ => by simp [lawIs]
theorem okD_I {k : Nat} {x : Int} : okD k (eI x) = true := by cases k <;> rfl
theorem okD_B {k : Nat} {x : Bool} : okD k (eB x) = true := by cases k <;> rfl
theorem okD_S {k : Nat} {x : Str} : okD k (eS x) = true := by cases k <;> rfl
theorem okD_N {k : Nat} : okD k .none = true := by cases k <;> rfl
theorem okD_T {α : Type} {e : α → PyData} {k : Nat} {xs : List α} (h : xs.length ≤ 8388608) (h2 : ∀ x ∈ xs, okD k (e x) = true) : okD (k + 1) (eT e xs) = true := by
  simp only [okD, List.length_map, Bool.and_eq_true, decide_eq_true_eq, List.all_eq_true, List.mem_map]
  exact ⟨h, fun y ⟨x, hx, e⟩ => e ▸ h2 x hx⟩
theorem okD_P2 {α β : Type} {e1 : α → PyData} {e2 : β → PyData} {k : Nat} {x : α × β} (h1 : okD k (e1 x.1) = true) (h2 : okD k (e2 x.2) = true) : okD (k + 1) (eP2 e1 e2 x) = true := by
  simp [okD, h1, h2]
theorem okD_P3 {α β γ : Type} {e1 : α → PyData} {e2 : β → PyData} {e3 : γ → PyData} {k : Nat} {x : α × β × γ} (h1 : okD k (e1 x.1) = true) (h2 : okD k (e2 x.2.1) = true) (h3 : okD k (e3 x.2.2) = true) : okD (k + 1) (eP3 e1 e2 e3 x) = true := by
  simp [okD, h1, h2, h3]
theorem okD_O {α : Type} {e : α → PyData} {k : Nat} {x : Option α} (h : ∀ y, x = some y → okD k (e y) = true) : okD k (eO e x) = true := by
  cases x with
  | none => exact okD_N
  | some y => exact h y rfl
/-- equal things are told equal -/
theorem law_is_rfl {α : Type} {e : α → PyData} (h : IsEq e) {x : α} (ok : okD 6 (e x) = true) : m__law_is (e x) (e x) = some true := by
  unfold m__law_is
  rw [if_pos ok, (h.is x x).mpr rfl]
end SM

set_option autoImplicit false
set_option Elab.async false
set_option linter.all false
set_option maxRecDepth 100000
set_option maxHeartbeats 4000000
namespace K75
open PySem PySem.Spec PyProof.Rows L2 SM
def m_do_loads_last (larder1 : (Int × Int)) (days2 : (List (Int × Int))) (loads3 : (List Int)) : Option Bool :=
  if (!(decide (((List.length loads3 : Nat) : Int) = ((List.length days2 : Nat) : Int)))) = true then (some false)
  else (foldR (ρ := Bool) (β := (Int)) (fun (s5 : (Int)) (x6 : ((Int × Int) × Int)) =>
  (some ((s5 + x6.2) - x6.1.2)).bind fun stock7 =>
  if ((!((decide ((0 : Int) ≤ x6.2)) && (decide (x6.2 ≤ x6.1.1)))) || (!((decide ((0 : Int) ≤ stock7)) && (decide (stock7 ≤ larder1.1))))) = true then (some (.ret false))
  else some (.nx (stock7))) ((larder1.2) : (Int)) (List.zip days2 loads3)).bind (Res.elim id fun (s5 : (Int)) =>
  some true)
def m_is_lack (larder1 : (Int × Int)) (days2 : (List (Int × Int))) (a3 : Int) (b4 : Int) : Option Bool :=
  if (!((decide ((0 : Int) ≤ a3)) && ((decide (a3 ≤ b4)) && (decide (b4 < ((List.length days2 : Nat) : Int)))))) = true then (some false)
  else (some (if (decide (a3 = (0 : Int))) = true then larder1.2 else larder1.1)).bind fun there6 =>
  some (decide (((List.sum (List.map (fun (x8 : (Int × Int)) => x8.1) (cut days2 (some a3) (some (b4 + (1 : Int)))))) + there6) < (List.sum (List.map (fun (x7 : (Int × Int)) => x7.2) (cut days2 (some a3) (some (b4 + (1 : Int))))))))
def m_told_lack (larder1 : (Int × Int)) (days2 : (List (Int × Int))) : Option (Option (Int × Int)) :=
  (rngO 0 ((List.length days2 : Nat) : Int)).bind fun r3 =>
  (foldR (ρ := (Option (Int × Int))) (β := Unit) (fun (s4 : Unit) (x5 : Int) =>
  (rngO x5 ((List.length days2 : Nat) : Int)).bind fun r6 =>
  (foldR (ρ := (Option (Int × Int))) (β := Unit) (fun (s7 : Unit) (x8 : Int) =>
  (m_is_lack larder1 days2 x5 x8).bind fun t9 =>
  if t9 = true then (some (.ret (some (x5, x8))))
  else some (.nx ())) (() : Unit) r6).bind (Res.elim .ret fun (s7 : Unit) =>
  some (.nx ()))) (() : Unit) r3).bind (Res.elim id fun (s4 : Unit) =>
  some none)
def m_asked_stocks (days1 : (List (Int × Int))) : Option (List Int) :=
  (some [(0 : Int)]).bind fun asked2 =>
  (List.foldlM (fun (s3 : ((List Int))) (x4 : (Int × Int)) =>
  (atI s3 (0 : Int)).bind fun t6 =>
  (catO [(max (0 : Int) ((t6 + x4.2) - x4.1))] s3).bind fun asked8 =>
  some (asked8)) ((asked2) : ((List Int))) (List.reverse days1)).bind fun (s3 : ((List Int))) =>
  some s3
def m_told_loads (larder1 : (Int × Int)) (days2 : (List (Int × Int))) : Option (Option (List Int)) :=
  (m_told_lack larder1 days2).bind fun t3 =>
  if (!(isN ((eO (eP2 eI eI)) t3))) = true then (some none)
  else (m_asked_stocks days2).bind fun asked5 =>
  (some larder1.2).bind fun stock6 =>
  (some ([] : List Int)).bind fun found7 =>
  (List.foldlM (fun (s8 : (Int × (List Int))) (x9 : (Int × (Int × Int))) =>
  (atI asked5 (x9.1 + (1 : Int))).bind fun t10 =>
  (some (max (0 : Int) ((x9.2.2 + t10) - s8.1))).bind fun load11 =>
  (some ((s8.1 + load11) - x9.2.2)).bind fun stock12 =>
  (appO s8.2 load11).bind fun found13 =>
  some (stock12, found13)) ((stock6, found7) : (Int × (List Int))) (enumI days2)).bind fun (s8 : (Int × (List Int))) =>
  some (some s8.2)
def m__law_cell (script1 : (List Int)) (k2 : Int) : Option Int :=
  if (decide (k2 < ((List.length script1 : Nat) : Int))) = true then ((atI script1 k2).bind fun t3 =>
  some t3)
  else some (((5 : Int) * k2) + (3 : Int))
def m__law_draws (cell1 : Int) (count2 : Int) : Option (List Int) :=
  (some ((Int.natAbs cell1 : Nat) : Int)).bind fun rest3 =>
  (some (decide ((1000000000000000000 : Int) ≤ rest3))).bind fun digits4 =>
  (some rest3).bind fun seed5 =>
  (some ([] : List Int)).bind fun draws6 =>
  (rngO 0 count2).bind fun r7 =>
  (List.foldlM (fun (s8 : (Int × (List Int))) (x9 : Int) =>
  (if (digits4 && (decide ((0 : Int) < s8.1))) = true then ((appO s8.2 (s8.1 % (5040 : Int))).bind fun draws17 =>
  (some (s8.1 / (5040 : Int))).bind fun rest18 =>
  some (rest18, draws17))
  else ((some ((((seed5 * (48271 : Int)) + ((x9 + (1 : Int)) * (69621 : Int))) + (11 : Int)) % (2147483647 : Int))).bind fun mixed19 =>
  (mulO mixed19 mixed19).bind fun t20 =>
  (some ((t20 + ((40692 : Int) * (x9 + (3 : Int)))) % (2147483399 : Int))).bind fun mixed21 =>
  (appO s8.2 ((mixed21 / (64 : Int)) % (5040 : Int))).bind fun draws22 =>
  some (s8.1, draws22))).bind fun (j16 : (Int × (List Int))) =>
  some (j16.1, j16.2)) ((rest3, draws6) : (Int × (List Int))) r7).bind fun (s8 : (Int × (List Int))) =>
  some s8.2
def m__law_is_integer (value1 : PyData) : Option Bool :=
  some ((isInst "int" (eD value1)) && (!(isInst "bool" (eD value1))))
def m__law_is_integers (value1 : (Option (List Int))) : Option Bool :=
  (andO (some (isInst "tuple" ((eO (eT eI)) value1))) (value1.bind fun t2 => ((compM (fun (x3 : Int) => ((m__law_is_integer (eI x3)).bind fun t4 => (some (some t4)))) t2).bind fun l5 => (some (List.all l5 id))))).bind fun t6 =>
  some t6
def m__law_bent (row1 : (List Int)) (draws2 : (List Int)) (most3 : Int) : Option (List Int) :=
  (atI draws2 (0 : Int)).bind fun t4 =>
  (some (t4 % (6 : Int))).bind fun way5 =>
  (atI draws2 (1 : Int)).bind fun t6 =>
  (modO t6 (((List.length row1 : Nat) : Int) + (1 : Int))).bind fun at8 =>
  (atI draws2 (2 : Int)).bind fun t9 =>
  (modO t9 (most3 + (3 : Int))).bind fun t10 =>
  (atI draws2 (2 : Int)).bind fun t11 =>
  (atI [(t10 - (1 : Int)), (100000000000000000000 : Int), ((0 : Int) - (1 : Int))] (((t11 / (60 : Int)) % (14 : Int)) / (6 : Int))).bind fun odd13 =>
  if (decide (way5 = (0 : Int))) = true then ((catO (cut row1 none (some at8)) (cut row1 (some (at8 + (1 : Int))) none)).bind fun t14 =>
  some t14)
  else if (decide (way5 = (1 : Int))) = true then ((catO (cut row1 none (some at8)) [odd13]).bind fun t15 =>
  (catO t15 (cut row1 (some at8) none)).bind fun t16 =>
  some t16)
  else if (decide (way5 < (4 : Int))) = true then ((catO (cut row1 none (some at8)) [odd13]).bind fun t17 =>
  (catO t17 (cut row1 (some (at8 + (1 : Int))) none)).bind fun t18 =>
  some t18)
  else (if (decide (way5 = (4 : Int))) = true then (some (List.reverse row1)) else ((catO (cut row1 none (some at8)) (cut row1 (some (max (0 : Int) (at8 - (1 : Int)))) none)).bind fun t19 => (some t19))).bind fun t20 =>
  some t20
def m__law_last (larder1 : (Int × Int)) (days2 : (List (Int × Int))) (loads3 : (List Int)) : Option Bool :=
  if (!(decide (((List.length loads3 : Nat) : Int) = ((List.length days2 : Nat) : Int)))) = true then (some false)
  else (some larder1.2).bind fun stock4 =>
  (rngO 0 ((List.length days2 : Nat) : Int)).bind fun r5 =>
  (foldR (ρ := Bool) (β := (Int)) (fun (s6 : (Int)) (x7 : Int) =>
  (atI loads3 x7).bind fun t8 =>
  (atI days2 x7).bind fun t9 =>
  (some ((s6 + t8) - t9.2)).bind fun stock10 =>
  (orO ((atI loads3 x7).bind fun t11 => (some (decide (t11 < (0 : Int))))) (orO ((atI loads3 x7).bind fun t12 => ((atI days2 x7).bind fun t13 => (some (decide (t13.1 < t12))))) (orO (some (decide (stock10 < (0 : Int)))) (some (decide (larder1.1 < stock10)))))).bind fun t14 =>
  if t14 = true then (some (.ret false))
  else some (.nx (stock10))) ((stock4) : (Int)) r5).bind (Res.elim id fun (s6 : (Int)) =>
  some true)
def m__law_every (larder1 : (Int × Int)) (days2 : (List (Int × Int))) : Option (List (List Int)) :=
  (some [(([] : List Int), larder1.2)]).bind fun every3 =>
  (List.foldlM (fun (s4 : ((List ((List Int) × Int)))) (x5 : (Int × Int)) =>
  (some ([] : List ((List Int) × Int))).bind fun longer6 =>
  (List.foldlM (fun (s7 : ((List ((List Int) × Int)))) (x8 : ((List Int) × Int)) =>
  (rngO 0 (x5.1 + (1 : Int))).bind fun r9 =>
  (some (List.map (fun (x10 : Int) => x10) (List.filter (fun (x10 : Int) => ((decide ((0 : Int) ≤ ((x8.2 + x10) - x5.2))) && (decide (((x8.2 + x10) - x5.2) ≤ larder1.1)))) r9))).bind fun some11 =>
  (compM (fun (x12 : Int) => ((catO x8.1 [x12]).bind fun t13 => (some (some (t13, ((x8.2 + x12) - x5.2)))))) some11).bind fun l14 =>
  (catO s7 l14).bind fun longer16 =>
  some (longer16)) ((longer6) : ((List ((List Int) × Int)))) s4).bind fun (s7 : ((List ((List Int) × Int)))) =>
  (some s7).bind fun every17 =>
  some (every17)) ((every3) : ((List ((List Int) × Int)))) days2).bind fun (s4 : ((List ((List Int) × Int)))) =>
  some (List.map (fun (x18 : ((List Int) × Int)) => x18.1) s4)
def m__law_lack (larder1 : (Int × Int)) (days2 : (List (Int × Int))) (a3 : Int) (b4 : Int) : Option Bool :=
  if ((decide (a3 < (0 : Int))) || ((decide (b4 < a3)) || (decide (((List.length days2 : Nat) : Int) ≤ b4)))) = true then (some false)
  else (some (if (decide (a3 = (0 : Int))) = true then larder1.2 else larder1.1)).bind fun there5 =>
  some (decide (there5 < (List.sum (List.map (fun (x6 : (Int × Int)) => (x6.2 - x6.1)) (cut days2 (some a3) (some (b4 + (1 : Int))))))))
def m__law_lacks (larder1 : (Int × Int)) (days2 : (List (Int × Int))) : Option (List (Int × Int)) :=
  (some ([] : List (Int × Int))).bind fun pairs3 =>
  (rngO 0 ((List.length days2 : Nat) : Int)).bind fun r4 =>
  (List.foldlM (fun (s5 : ((List (Int × Int)))) (x6 : Int) =>
  (rngO x6 ((List.length days2 : Nat) : Int)).bind fun r7 =>
  (compM (fun (x8 : Int) => ((m__law_lack larder1 days2 x6 x8).bind fun t9 => (if t9 = true then (some (x6, x8)).bind (fun y => some (some y)) else some none))) r7).bind fun l10 =>
  (catO s5 l10).bind fun pairs12 =>
  some (pairs12)) ((pairs3) : ((List (Int × Int)))) r4).bind fun (s5 : ((List (Int × Int)))) =>
  some s5
def m__law_asked_pairs (larder1 : (Int × Int)) (days2 : (List (Int × Int))) (draws3 : (List Int)) : Option Bool :=
  (some ((List.length days2 : Nat) : Int)).bind fun size4 =>
  (some [((0 : Int), (size4 - (1 : Int))), ((0 : Int), size4), ((size4 - (1 : Int)), (0 : Int)), (((0 : Int) - (1 : Int)), (0 : Int)), ((100000000000000000000 : Int), (100000000000000000000 : Int)), ((0 : Int), (0 : Int)), (((0 : Int) - (2 : Int)), ((0 : Int) - (1 : Int)))]).bind fun asked5 =>
  (rngO 0 (6 : Int)).bind fun r6 =>
  (List.foldlM (fun (s7 : ((List (Int × Int)))) (x8 : Int) =>
  (atI draws3 x8).bind fun t9 =>
  (modO t9 (size4 + (1 : Int))).bind fun t10 =>
  (atI draws3 x8).bind fun t11 =>
  (modO (t11 / (13 : Int)) (size4 + (1 : Int))).bind fun t12 =>
  (appO s7 (t10, t12)).bind fun asked13 =>
  some (asked13)) ((asked5) : ((List (Int × Int)))) r6).bind fun (s7 : ((List (Int × Int)))) =>
  (compM (fun (x14 : (Int × Int)) => ((m_is_lack larder1 days2 x14.1 x14.2).bind fun t15 => ((m__law_lack larder1 days2 x14.1 x14.2).bind fun t16 => ((m__law_is (eB t15) (eB t16)).bind fun t17 => (some (some t17)))))) s7).bind fun l18 =>
  some (List.all l18 id)
def m__law_great (script1 : (List Int)) : Option Bool :=
  (m__law_cell script1 (3 : Int)).bind fun t2 =>
  (m__law_draws t2 (40 : Int)).bind fun draws4 =>
  (atI draws4 (0 : Int)).bind fun t5 =>
  (some (t5 % (101 : Int))).bind fun room6 =>
  (atI draws4 (1 : Int)).bind fun t7 =>
  (modO t7 (room6 + (1 : Int))).bind fun t8 =>
  (some (room6, t8)).bind fun larder9 =>
  (atI draws4 (22 : Int)).bind fun t10 =>
  (rngO 0 (t10 % (11 : Int))).bind fun r11 =>
  (compM (fun (x12 : Int) => ((atI draws4 ((2 : Int) + x12)).bind fun t13 => ((atI draws4 ((12 : Int) + x12)).bind fun t14 => (some (some ((t13 % (101 : Int)), (t14 % (90 : Int)))))))) r11).bind fun days16 =>
  (atI draws4 (23 : Int)).bind fun t17 =>
  (if (decide ((t17 % (2 : Int)) = (0 : Int))) = true then ((some (List.map (fun (x23 : (Int × Int)) => ((x23.1 + (25 : Int)), (min x23.2 (x23.1 + (20 : Int))))) days16)).bind fun days24 =>
  (some (List.map (fun (x25 : (Int × Int)) => ((min x25.1 (100 : Int)), x25.2)) days24)).bind fun days26 =>
  some (days26))
  else (some (days16))).bind fun (j22 : ((List (Int × Int)))) =>
  (m__law_lacks larder9 j22).bind fun pairs28 =>
  (m_told_lack larder9 j22).bind fun t29 =>
  (if (decide ((0 : Int) < ((List.length pairs28 : Nat) : Int))) = true then ((atI pairs28 (0 : Int)).bind fun t30 => (some (some t30))) else (some none)).bind fun t31 =>
  (m__law_is ((eO (eP2 eI eI)) t29) ((eO (eP2 eI eI)) t31)).bind fun t32 =>
  if (!t32) = true then (some false)
  else (m__law_asked_pairs larder9 j22 (cut draws4 (some (24 : Int)) (some (30 : Int)))).bind fun t33 =>
  if (!t33) = true then (some false)
  else (m_told_loads larder9 j22).bind fun loads35 =>
  if (decide ((0 : Int) < ((List.length pairs28 : Nat) : Int))) = true then (some (isN ((eO (eT eI)) loads35)))
  else (orO ((m__law_is_integers loads35).bind fun t36 => (some (!t36))) (loads35.bind fun t37 => ((m__law_last larder9 j22 t37).bind fun t38 => (some (!t38))))).bind fun t39 =>
  if t39 = true then (some false)
  else loads35.bind fun t40 =>
  if (!(decide ((List.sum t40) = (max (0 : Int) ((List.sum (List.map (fun (x41 : (Int × Int)) => x41.2) j22)) - larder9.2))))) = true then (some false)
  else (rngO 0 ((List.length j22 : Nat) : Int)).bind fun r42 =>
  (foldR (ρ := Bool) (β := Unit) (fun (s43 : Unit) (x44 : Int) =>
  loads35.bind fun t45 =>
  (atI t45 x44).bind fun t46 =>
  (if (decide ((0 : Int) < t46)) = true then (loads35.bind fun t59 =>
  (some ((larder9.2 + (List.sum (cut t59 none (some x44)))) - (List.sum (List.map (fun (x60 : (Int × Int)) => x60.2) (cut j22 none (some x44)))))).bind fun stock61 =>
  loads35.bind fun t62 =>
  (atI t62 x44).bind fun t63 =>
  (atI j22 x44).bind fun t64 =>
  (some (((stock61 + t63) - (1 : Int)) - t64.2)).bind fun less65 =>
  (some (larder9.1, less65)).bind fun rest66 =>
  (andO (some (decide ((0 : Int) ≤ less65))) ((m__law_lacks rest66 (cut j22 (some (x44 + (1 : Int))) none)).bind fun t67 => (some (decide (((List.length (List.map (fun (x68 : (Int × Int)) => x68) (List.filter (fun (x68 : (Int × Int)) => (decide (x68.1 = (0 : Int)))) t67)) : Nat) : Int) = (0 : Int)))))).bind fun t69 =>
  if t69 = true then (some (.ret false))
  else some (.nx ()))
  else (some (.nx ()))).bind (Res.elim (ρ := Bool) (τ := Unit) .ret fun j58 =>
  some (.nx ()))) (() : Unit) r42).bind (Res.elim id fun (s43 : Unit) =>
  some true)
def m_law (script1 : (List Int)) : Option Bool :=
  (rngO 0 (3 : Int)).bind fun r2 =>
  (foldR (ρ := Bool) (β := Unit) (fun (s3 : Unit) (x4 : Int) =>
  (m__law_cell script1 x4).bind fun t5 =>
  (m__law_draws t5 (50 : Int)).bind fun draws7 =>
  (atI draws7 (0 : Int)).bind fun t8 =>
  (some (t8 % (7 : Int))).bind fun room9 =>
  (atI draws7 (1 : Int)).bind fun t10 =>
  (modO t10 (room9 + (1 : Int))).bind fun t11 =>
  (some (room9, t11)).bind fun larder12 =>
  (some ([] : List (Int × Int))).bind fun days13 =>
  (atI draws7 (2 : Int)).bind fun t14 =>
  (rngO 0 (t14 % (6 : Int))).bind fun r15 =>
  (List.foldlM (fun (s16 : ((List (Int × Int)))) (x17 : Int) =>
  (atI draws7 ((3 : Int) + x17)).bind fun t18 =>
  (atI draws7 ((8 : Int) + x17)).bind fun t19 =>
  (appO s16 ((t18 % (4 : Int)), (t19 % (4 : Int)))).bind fun days20 =>
  some (days20)) ((days13) : ((List (Int × Int)))) r15).bind fun (s16 : ((List (Int × Int)))) =>
  (if (decide (x4 = (0 : Int))) = true then ((some (List.map (fun (x24 : (Int × Int)) => (x24.1, (min x24.2 x24.1))) s16)).bind fun days25 =>
  some (days25))
  else (some (s16))).bind fun (j23 : ((List (Int × Int)))) =>
  (if (decide (x4 = (1 : Int))) = true then ((catO (cut j23 none (some (4 : Int))) [((0 : Int), (room9 + (1 : Int)))]).bind fun days30 =>
  some (days30))
  else (some (j23))).bind fun (j28 : ((List (Int × Int)))) =>
  (some j28).bind fun days31 =>
  (m__law_every larder12 days31).bind fun every33 =>
  (m__law_lacks larder12 days31).bind fun pairs35 =>
  if ((!(decide ((decide ((0 : Int) < ((List.length every33 : Nat) : Int))) = (decide (((List.length pairs35 : Nat) : Int) = (0 : Int)))))) || (((decide (x4 = (0 : Int))) && (decide (((List.length every33 : Nat) : Int) = (0 : Int)))) || ((decide (x4 = (1 : Int))) && (decide ((0 : Int) < ((List.length every33 : Nat) : Int)))))) = true then (some (.ret false))
  else (m_told_loads larder12 days31).bind fun t36 =>
  (if (decide ((0 : Int) < ((List.length every33 : Nat) : Int))) = true then ((atI every33 (0 : Int)).bind fun t37 => (some (some t37))) else (some none)).bind fun t38 =>
  (m__law_is ((eO (eT eI)) t36) ((eO (eT eI)) t38)).bind fun t39 =>
  if (!t39) = true then (some (.ret false))
  else (m_told_lack larder12 days31).bind fun t40 =>
  (if (decide ((0 : Int) < ((List.length pairs35 : Nat) : Int))) = true then ((atI pairs35 (0 : Int)).bind fun t41 => (some (some t41))) else (some none)).bind fun t42 =>
  (m__law_is ((eO (eP2 eI eI)) t40) ((eO (eP2 eI eI)) t42)).bind fun t43 =>
  if (!t43) = true then (some (.ret false))
  else (some (max (0 : Int) ((List.sum (List.map (fun (x44 : (Int × Int)) => x44.2) days31)) - larder12.2))).bind fun need45 =>
  (andO (some (decide ((0 : Int) < ((List.length every33 : Nat) : Int)))) ((orO ((atI every33 (0 : Int)).bind fun t46 => (some (!(decide ((List.sum t46) = need45))))) ((List.min? (List.map (fun (x47 : (List Int)) => (List.sum x47)) every33)).bind fun t48 => (some (!(decide (t48 = need45)))))).bind fun t49 => (some t49))).bind fun t50 =>
  if t50 = true then (some (.ret false))
  else (rngO 0 (6 : Int)).bind fun r51 =>
  (foldR (ρ := Bool) (β := Unit) (fun (s52 : Unit) (x53 : Int) =>
  (some (List.map (fun (x54 : (Int × Int)) => x54.1) days31)).bind fun base55 =>
  (if ((decide ((0 : Int) < ((List.length every33 : Nat) : Int))) && (decide (x53 < (5 : Int)))) = true then ((atI draws7 ((13 : Int) + x53)).bind fun t61 =>
  (modO t61 ((List.length every33 : Nat) : Int)).bind fun t62 =>
  (atI every33 t62).bind fun base64 =>
  some (base64))
  else (some (base55))).bind fun (j60 : ((List Int))) =>
  (if (decide ((x53 % (5 : Int)) = (0 : Int))) = true then (some j60) else ((m__law_bent j60 (cut draws7 (some ((19 : Int) + ((3 : Int) * x53))) (some ((22 : Int) + ((3 : Int) * x53)))) (4 : Int)).bind fun t65 => (some t65))).bind fun asked67 =>
  (m_do_loads_last larder12 days31 asked67).bind fun t68 =>
  (m__law_last larder12 days31 asked67).bind fun t69 =>
  (m__law_is (eB t68) (eB t69)).bind fun t70 =>
  if (!t70) = true then (some (.ret false))
  else some (.nx ())) (() : Unit) r51).bind (Res.elim .ret fun (s52 : Unit) =>
  (m__law_asked_pairs larder12 days31 (cut draws7 (some (40 : Int)) (some (46 : Int)))).bind fun t71 =>
  if (!t71) = true then (some (.ret false))
  else some (.nx ()))) (() : Unit) r2).bind (Res.elim id fun (s3 : Unit) =>
  (m__law_great script1).bind fun t72 =>
  some t72)
end K75

set_option autoImplicit false
set_option Elab.async false
set_option linter.all false
set_option maxRecDepth 100000
set_option maxHeartbeats 4000000
namespace K75
open SM PySem PySem.Spec L2
theorem cell_ok (script : List Int) {k : Int} (h : 0 ≤ k) : ∃ c, m__law_cell script k = some c := by
  unfold m__law_cell
  split
  · rename_i hc
    obtain ⟨x, h1, _⟩ := atI_lt (xs := script) h (of_decide_eq_true hc)
    exact ⟨x, by rw [h1]; rfl⟩
  · exact ⟨_, rfl⟩
theorem draws_ok (cell : Int) {n : Int} (h0 : 0 ≤ n) (h1 : n ≤ 1000) : ∃ ds, m__law_draws cell n = some ds ∧ (ds.length : Int) = n ∧ ∀ d ∈ ds, 0 ≤ d ∧ d < 5040 := by
  obtain ⟨k, rfl⟩ := Int.eq_ofNat_of_zero_le h0
  unfold m__law_draws
  refine ex_bind rfl (ex_bind rfl (ex_bind rfl (ex_bind rfl (ex_bind (rngO_eq (by omega)) ?_))))
  refine ex_fold_rng (fun j t => t.2.length = j ∧ ∀ d ∈ t.2, 0 ≤ d ∧ d < 5040) ⟨rfl, fun d hd => by cases hd⟩ ?_ fun t ⟨hl, hr⟩ => ⟨_, rfl, by rw [hl], hr⟩
  · rintro j t hj ⟨hl, hr⟩
    have app : ∀ x : Int, 0 ≤ x → x < 5040 → (t.2 ++ [x]).length = j + 1 ∧ ∀ d ∈ t.2 ++ [x], 0 ≤ d ∧ d < 5040 := fun x a b => ⟨by rw [List.length_append, hl]; rfl, fun d hd => by
      rcases List.mem_append.mp hd with h | h
      · exact hr d h
      · rw [List.mem_singleton.mp h]; exact ⟨a, b⟩⟩
    have cond : ∀ (c : Bool) (a b : Option (Int × List Int)) (g : Int × List Int → Option (Int × List Int)), (∀ t', g t' = some t') → (∃ t', a = some t' ∧ t'.2.length = j + 1 ∧ ∀ d ∈ t'.2, 0 ≤ d ∧ d < 5040) → (∃ t', b = some t' ∧ t'.2.length = j + 1 ∧ ∀ d ∈ t'.2, 0 ≤ d ∧ d < 5040) → ∃ t', (if c = true then a else b).bind g = some t' ∧ t'.2.length = j + 1 ∧ ∀ d ∈ t'.2, 0 ≤ d ∧ d < 5040 := by
      intro c a b g hg ha hb
      cases c with
      | true => obtain ⟨t', e, h⟩ := ha; exact ⟨t', by rw [if_pos rfl, e]; exact hg t', h⟩
      | false => obtain ⟨t', e, h⟩ := hb; exact ⟨t', by rw [if_neg Bool.false_ne_true, e]; exact hg t', h⟩
    refine cond _ _ _ _ (fun t' => rfl) ?_ ?_
    · refine ex_bind (appO_eq (by omega)) (ex_bind rfl ⟨_, rfl, app _ (Int.emod_nonneg _ (by decide)) (Int.emod_lt_of_pos _ (by decide))⟩)
    · refine ex_bind rfl (ex_bind (mulO_eq (.inl ?_)) (ex_bind rfl (ex_bind (appO_eq (by omega)) ⟨_, rfl, app _ (Int.emod_nonneg _ (by decide)) (Int.emod_lt_of_pos _ (by decide))⟩)))
      have a := Int.emod_nonneg ((((cell.natAbs : Nat) : Int) * 48271 + (((j : Nat) : Int) + 1) * 69621) + 11) (b := 2147483647) (by decide)
      have b := Int.emod_lt_of_pos ((((cell.natAbs : Nat) : Int) * 48271 + (((j : Nat) : Int) + 1) * 69621) + 11) (b := 2147483647) (by decide)
      exact ⟨Int.lt_of_lt_of_le (by decide) a, Int.lt_trans b (by decide)⟩
/-- a row of draws -/
structure Dr (ds : List Int) (n : Int) : Prop where
  len : (ds.length : Int) = n
  rng : ∀ d ∈ ds, 0 ≤ d ∧ d < 5040
theorem Dr.at {ds : List Int} {n i : Int} (h : Dr ds n) (h0 : 0 ≤ i) (h1 : i < n) : ∃ d, atI ds i = some d ∧ 0 ≤ d ∧ d < 5040 := by
  obtain ⟨x, e, m, _⟩ := atI_lt (xs := ds) h0 (by rw [h.len]; exact h1)
  exact ⟨x, e, h.rng x m⟩
theorem Dr.cut {ds : List Int} {n i j : Int} (h : Dr ds n) (h0 : 0 ≤ i) (h1 : i ≤ j) (h2 : j ≤ n) : Dr (SM.cut ds (some i) (some j)) (j - i) := by
  have hl := h.len
  rw [cut_mid h0 (by omega)]
  refine ⟨?_, fun d hd => h.rng d (List.mem_of_mem_drop (List.mem_of_mem_take hd))⟩
  rw [List.length_take, List.length_drop]
  omega
theorem draws_dr (cell : Int) {n : Int} (h0 : 0 ≤ n) (h1 : n ≤ 1000) : ∃ ds, m__law_draws cell n = some ds ∧ Dr ds n := by
  obtain ⟨ds, e, a, b⟩ := draws_ok cell h0 h1
  exact ⟨ds, e, a, b⟩
theorem bent_ok {row ds : List Int} {most n : Int} (hr : row.length ≤ 1000) (hd : Dr ds n) (hn : 3 ≤ n) (hm : 0 ≤ most) : ∃ r, m__law_bent row ds most = some r ∧ r.length ≤ row.length + 1 + row.length := by
  obtain ⟨d0, e0, a0, b0⟩ := hd.at (i := 0) (by omega) (by omega)
  obtain ⟨d1, e1, a1, b1⟩ := hd.at (i := 1) (by omega) (by omega)
  obtain ⟨d2, e2, a2, b2⟩ := hd.at (i := 2) (by omega) (by omega)
  unfold m__law_bent
  refine ex_bind e0 (ex_bind rfl (ex_bind e1 (ex_bind (modO_eq (by omega)) (ex_bind e2 (ex_bind (modO_eq (by omega)) (ex_bind e2 ?_))))))
  have q1 : 0 ≤ d2 / 60 := Int.ediv_nonneg a2 (by decide)
  have q2 := Int.emod_nonneg (d2 / 60) (b := 14) (by decide)
  have q3 := Int.emod_lt_of_pos (d2 / 60) (b := 14) (by decide)
  obtain ⟨x, e, _, _⟩ := atI_lt (xs := [(d2 % (most + 3) - 1), (100000000000000000000 : Int), ((0 : Int) - (1 : Int))]) (i := d2 / 60 % 14 / 6) (Int.ediv_nonneg q2 (by decide)) (by show d2 / 60 % 14 / 6 < 3; omega)
  refine ex_bind e ?_
  have c1 : ∀ l u, (SM.cut row l u).length ≤ row.length := fun l u => cut_len
  split
  · exact ex_bind (catO_eq (by have := c1 none (some (d1 % ((row.length : Int) + 1))); have := c1 (some (d1 % ((row.length : Int) + 1) + 1)) none; omega)) ⟨_, rfl, by rw [List.length_append]; have := c1 none (some (d1 % ((row.length : Int) + 1))); have := c1 (some (d1 % ((row.length : Int) + 1) + 1)) none; omega⟩
  split
  · refine ex_bind (catO_eq (by have := c1 none (some (d1 % ((row.length : Int) + 1))); simp only [List.length_cons, List.length_nil]; omega)) (ex_bind (catO_eq ?_) ⟨_, rfl, ?_⟩)
    all_goals (have := c1 none (some (d1 % ((row.length : Int) + 1))); have := c1 (some (d1 % ((row.length : Int) + 1))) none; simp only [List.length_append, List.length_cons, List.length_nil]; omega)
  split
  · refine ex_bind (catO_eq (by have := c1 none (some (d1 % ((row.length : Int) + 1))); simp only [List.length_cons, List.length_nil]; omega)) (ex_bind (catO_eq ?_) ⟨_, rfl, ?_⟩)
    all_goals (have := c1 none (some (d1 % ((row.length : Int) + 1))); have := c1 (some (d1 % ((row.length : Int) + 1) + 1)) none; simp only [List.length_append, List.length_cons, List.length_nil]; omega)
  split
  · exact ex_bind rfl ⟨_, rfl, by rw [List.length_reverse]; omega⟩
  · refine ex_bind (x := SM.cut row none (some (d1 % ((row.length : Int) + 1))) ++ SM.cut row (some (max 0 (d1 % ((row.length : Int) + 1) - 1))) none) ?_ ⟨_, rfl, ?_⟩
    · rw [catO_eq]
      · rfl
      · have := c1 none (some (d1 % ((row.length : Int) + 1))); have := c1 (some (max 0 (d1 % ((row.length : Int) + 1) - 1))) none; omega
    · rw [List.length_append]; have := c1 none (some (d1 % ((row.length : Int) + 1))); have := c1 (some (max 0 (d1 % ((row.length : Int) + 1) - 1))) none; omega
/-! ### the mathematics -/
def A : List (Int × Int) → Int
  | [] => 0
  | d :: r => max 0 (A r + d.2 - d.1)
def As : List (Int × Int) → List Int
  | [] => [0]
  | d :: r => A (d :: r) :: As r
def G : Int → List (Int × Int) → List Int
  | _, [] => []
  | s, d :: r => max 0 (d.2 + A r - s) :: G (s + max 0 (d.2 + A r - s) - d.2) r
def lasts (room : Int) : Int → List (Int × Int) → List Int → Bool
  | _, [], [] => true
  | s, d :: r, l :: ls => (decide (0 ≤ l) && decide (l ≤ d.1) && (decide (0 ≤ s + l - d.2) && decide (s + l - d.2 ≤ room))) && lasts room (s + l - d.2) r ls
  | _, _, _ => false
def okl (room s : Int) (d : (Int × Int)) (l : Int) : Bool := decide (0 ≤ s + l - d.2) && decide (s + l - d.2 ≤ room)
def every (room : Int) : Int → List (Int × Int) → List (List Int)
  | _, [] => [[]]
  | s, d :: r => ((rng 0 (d.1 + 1)).filter (okl room s d)).flatMap fun l => (every room (s + l - d.2) r).map (l :: ·)
def good (room : Int) : List (Int × Int) → Prop
  | [] => True
  | _ :: r => A r ≤ room ∧ good room r
def need (ds : List (Int × Int)) : Int := (ds.map fun d => d.2).sum
def D (ds : List (Int × Int)) : Int := (ds.map fun d => d.2 - d.1).sum
def NN (ds : List (Int × Int)) : Prop := ∀ d ∈ ds, 0 ≤ d.1 ∧ 0 ≤ d.2
theorem NN.tail {d : (Int × Int)} {r : List (Int × Int)} (h : NN (d :: r)) : NN r := fun x hx => h x (List.mem_cons_of_mem _ hx)
theorem A_nn : ∀ ds : List (Int × Int), 0 ≤ A ds
  | [] => Int.le_refl 0
  | d :: r => by unfold A; omega
theorem need_nn : ∀ {ds : List (Int × Int)}, NN ds → 0 ≤ need ds
  | [], _ => by simp [need]
  | d :: r, h => by
    have := need_nn h.tail
    have := (h d List.mem_cons_self).2
    show 0 ≤ ((d :: r).map fun d => d.2).sum
    rw [List.map_cons, List.sum_cons]; unfold need at *; omega
theorem need_cons (d : (Int × Int)) (r : List (Int × Int)) : need (d :: r) = d.2 + need r := by unfold need; rw [List.map_cons, List.sum_cons]
theorem D_cons (d : (Int × Int)) (r : List (Int × Int)) : D (d :: r) = (d.2 - d.1) + D r := by unfold D; rw [List.map_cons, List.sum_cons]
theorem A_need : ∀ {ds : List (Int × Int)}, NN ds → A ds ≤ need ds
  | [], _ => by simp [need, A]
  | d :: r, h => by
    have := A_need h.tail
    have := need_nn h.tail
    have := h d List.mem_cons_self
    rw [need_cons]; unfold A; omega
theorem As_get : ∀ (ds : List (Int × Int)) (k : Nat), k ≤ ds.length → (As ds)[k]? = some (A (ds.drop k))
  | [], 0, _ => rfl
  | d :: r, 0, _ => rfl
  | d :: r, k + 1, h => As_get r k (by simpa using h)
theorem As_len : ∀ ds : List (Int × Int), (As ds).length = ds.length + 1
  | [] => rfl
  | d :: r => by show (As r).length + 1 = _; rw [As_len r]; rfl
/-- greedy lasts -/
theorem lasts_G (room : Int) : ∀ (ds : List (Int × Int)) (s : Int), NN ds → 0 ≤ s → s ≤ room → good room ds → A ds ≤ s → lasts room s ds (G s ds) = true
  | [], s, _, _, _, _, _ => rfl
  | d :: r, s, hn, h0, h1, hg, ha => by
    have hd := hn d List.mem_cons_self
    have an := A_nn r
    obtain ⟨g1, g2⟩ := hg
    unfold A at ha
    show ((_ && _ && (_ && _)) && lasts room _ r (G _ r)) = true
    rw [lasts_G room r _ hn.tail (by omega) (by omega) g2 (by omega)]
    simp only [Bool.and_true, Bool.and_eq_true, decide_eq_true_eq]
    omega
theorem sum_G : ∀ (ds : List (Int × Int)) (s : Int), NN ds → 0 ≤ s → A ds ≤ s → (G s ds).sum = max 0 (need ds - s)
  | [], s, _, h0, _ => by show (0 : Int) = _; simp only [need, List.map_nil, List.sum_nil]; omega
  | d :: r, s, hn, h0, ha => by
    have hd := hn d List.mem_cons_self
    have an := A_nn r
    have nn := A_need hn.tail
    unfold A at ha
    show (_ :: G _ r).sum = _
    rw [List.sum_cons, sum_G r _ hn.tail (by omega) (by omega), need_cons]
    omega
theorem rng_split {a b c : Int} (h1 : a ≤ b) (h2 : b ≤ c) : rng a c = rng a b ++ rng b c := by
  obtain ⟨n, rfl⟩ : ∃ n : Nat, b = a + n := ⟨(b - a).toNat, by omega⟩
  induction n with
  | zero => rw [show a + ((0 : Nat) : Int) = a by omega, rng_neg (Int.le_refl a), List.nil_append]
  | succ n ih =>
    rw [rng_succ, ih (by omega) (by omega), List.append_assoc, rng_cons (lo := a + n) (by omega)]
    congr 3
    rw [show a + ((n + 1 : Nat) : Int) = a + n + 1 by omega]
theorem every_head (room : Int) : ∀ (ds : List (Int × Int)) (s : Int), NN ds → 0 ≤ s → s ≤ room → ((good room ds ∧ A ds ≤ s) → (every room s ds).head? = some (G s ds)) ∧ (¬(good room ds ∧ A ds ≤ s) → every room s ds = [])
  | [], s, _, h0, _ => ⟨fun _ => rfl, fun h => absurd ⟨trivial, h0⟩ h⟩
  | d :: r, s, hn, h0, h1 => by
    have hd := hn d List.mem_cons_self
    have an := A_nn r
    have bad : ∀ l, okl room s d l = true → ¬(good room r ∧ A r ≤ s + l - d.2) → (every room (s + l - d.2) r).map (l :: ·) = [] := fun l hl hb => by
      unfold okl at hl
      simp only [Bool.and_eq_true, decide_eq_true_eq] at hl
      rw [(every_head room r (s + l - d.2) hn.tail hl.1 hl.2).2 hb]; rfl
    constructor
    · rintro ⟨⟨g1, g2⟩, ha⟩
      unfold A at ha
      have hL : max 0 (d.2 + A r - s) ≤ d.1 := by omega
      show (((rng 0 (d.1 + 1)).filter (okl room s d)).flatMap fun l => (every room (s + l - d.2) r).map (l :: ·)).head? = _
      rw [rng_split (b := max 0 (d.2 + A r - s)) (by omega) (by omega), rng_cons (lo := max 0 (d.2 + A r - s)) (by omega), List.filter_append, List.flatMap_append, List.flatMap_eq_nil_iff.mpr, List.nil_append, List.filter_cons, if_pos, List.flatMap_cons, List.head?_append, List.head?_map, (every_head room r _ hn.tail (by omega) (by omega)).1 ⟨g2, by omega⟩]
      · rfl
      · unfold okl; simp only [Bool.and_eq_true, decide_eq_true_eq]; omega
      · intro l hl
        rw [List.mem_filter, mem_rng] at hl
        exact bad l hl.2 fun z => by omega
    · intro hb
      show (((rng 0 (d.1 + 1)).filter (okl room s d)).flatMap fun l => (every room (s + l - d.2) r).map (l :: ·)) = []
      rw [List.flatMap_eq_nil_iff]
      intro l hl
      rw [List.mem_filter, mem_rng] at hl
      refine bad l hl.2 fun z => hb ⟨⟨?_, z.1⟩, ?_⟩
      · have := hl.2
        unfold okl at this
        simp only [Bool.and_eq_true, decide_eq_true_eq] at this
        omega
      · unfold A; omega
theorem every_sum (room : Int) : ∀ (ds : List (Int × Int)) (s : Int), NN ds → 0 ≤ s → ∀ ls ∈ every room s ds, 0 ≤ ls.sum ∧ need ds - s ≤ ls.sum ∧ ls.length = ds.length
  | [], s, _, h0, ls, h => by
    obtain rfl : ls = [] := by simpa [every] using h
    refine ⟨by simp, ?_, rfl⟩
    simp only [need, List.map_nil, List.sum_nil]; omega
  | d :: r, s, hn, h0, ls, h => by
    have h : ls ∈ ((rng 0 (d.1 + 1)).filter (okl room s d)).flatMap fun l => (every room (s + l - d.2) r).map (l :: ·) := h
    rw [List.mem_flatMap] at h
    obtain ⟨l, hl, hm⟩ := h
    rw [List.mem_filter, mem_rng] at hl
    obtain ⟨l2, h2, rfl⟩ := List.mem_map.mp hm
    have ok := hl.2
    unfold okl at ok
    simp only [Bool.and_eq_true, decide_eq_true_eq] at ok
    obtain ⟨a, b, c⟩ := every_sum room r _ hn.tail ok.1 l2 h2
    rw [List.sum_cons, need_cons, List.length_cons, List.length_cons, c]
    omega
theorem every_len (room : Int) : ∀ (ds : List (Int × Int)) (s : Int), (∀ d ∈ ds, d.1 ≤ 3) → (every room s ds).length ≤ 4 ^ ds.length
  | [], s, _ => by simp [every]
  | d :: r, s, h => by
    have hd := h d List.mem_cons_self
    show (((rng 0 (d.1 + 1)).filter (okl room s d)).flatMap fun l => (every room (s + l - d.2) r).map (l :: ·)).length ≤ _
    have key : ∀ xs : List Int, (xs.flatMap fun l => (every room (s + l - d.2) r).map (l :: ·)).length ≤ xs.length * 4 ^ r.length := by
      intro xs
      induction xs with
      | nil => simp
      | cons x xs ih =>
        rw [List.flatMap_cons, List.length_append, List.length_map, List.length_cons, Nat.succ_mul]
        have := every_len room r (s + x - d.2) fun x hx => h x (List.mem_cons_of_mem _ hx)
        omega
    refine Nat.le_trans (key _) ?_
    rw [List.length_cons, Nat.pow_succ, Nat.mul_comm]
    refine Nat.mul_le_mul_left _ (Nat.le_trans (List.length_filter_le _ _) ?_)
    rw [rng_len]; omega
/-! the lacks -/
def there (room s a : Int) : Int := if a = 0 then s else room
def seg (ds : List (Int × Int)) (a b : Int) : List (Int × Int) := (ds.drop a.toNat).take (b + 1 - a).toNat
def lk (room s : Int) (ds : List (Int × Int)) (a b : Int) : Bool := decide (0 ≤ a ∧ a ≤ b ∧ b < ds.length ∧ there room s a < D (seg ds a b))
def lacksOf (room s : Int) (ds : List (Int × Int)) : List (Int × Int) := (rng 0 ds.length).flatMap fun a => (rng a ds.length).filterMap fun b => if lk room s ds a b = true then some (a, b) else none
theorem A_le : ∀ (ds : List (Int × Int)) {t : Int}, 0 ≤ t → (A ds ≤ t ↔ ∀ j < ds.length, D (ds.take (j + 1)) ≤ t)
  | [], t, h => ⟨fun _ j hj => absurd hj (Nat.not_lt_zero j), fun _ => h⟩
  | d :: r, t, h => by
    have an := A_nn r
    constructor
    · intro ha j hj
      unfold A at ha
      rw [List.take_succ_cons, D_cons]
      cases j with
      | zero => rw [List.take_zero]; simp only [D, List.map_nil, List.sum_nil]; omega
      | succ j =>
        have h2 : A r ≤ t - (d.2 - d.1) := by omega
        have := (A_le r (t := t - (d.2 - d.1)) (by omega)).mp h2 j (by simpa using hj)
        omega
    · intro hj
      have h0 := hj 0 (by simp)
      rw [List.take_succ_cons, List.take_zero, D_cons] at h0
      simp only [D, List.map_nil, List.sum_nil] at h0
      have := (A_le r (t := t - (d.2 - d.1)) (by omega)).mpr fun j hj2 => by
        have := hj (j + 1) (by simpa using hj2)
        rw [List.take_succ_cons, D_cons] at this
        omega
      unfold A; omega
theorem good_iff (room : Int) (h0 : 0 ≤ room) : ∀ ds : List (Int × Int), good room ds ↔ ∀ k, 1 ≤ k → k < ds.length → A (ds.drop k) ≤ room
  | [] => ⟨fun _ k h1 h2 => absurd h2 (Nat.not_lt_zero k), fun _ => trivial⟩
  | d :: r => by
    constructor
    · rintro ⟨g1, g2⟩ k h1 h2
      cases k with
      | zero => omega
      | succ k =>
        rw [List.drop_succ_cons]
        cases k with
        | zero => exact g1
        | succ k => exact (good_iff room h0 r).mp g2 (k + 1) (by omega) (by simpa using h2)
    · intro h
      refine ⟨?_, (good_iff room h0 r).mpr fun k h1 h2 => ?_⟩
      · cases r with
        | nil => exact h0
        | cons e r => exact h 1 (Nat.le_refl 1) (by simp)
      · have := h (k + 1) (by omega) (by simpa using h2)
        rwa [List.drop_succ_cons] at this
theorem lacks_nil {room s : Int} (h0 : 0 ≤ s) (h1 : s ≤ room) (ds : List (Int × Int)) : lacksOf room s ds = [] ↔ good room ds ∧ A ds ≤ s := by
  have e1 : lacksOf room s ds = [] ↔ ∀ a b : Nat, a ≤ b → b < ds.length → D ((ds.drop a).take (b + 1 - a)) ≤ there room s a := by
    unfold lacksOf
    rw [List.flatMap_eq_nil_iff]
    constructor
    · intro h a b h1 h2
      have := h (a : Int) (mem_rng.mpr ⟨by omega, by omega⟩)
      rw [List.filterMap_eq_nil_iff] at this
      have := this (b : Int) (mem_rng.mpr ⟨by omega, by omega⟩)
      simp only [ite_eq_right_iff, reduceCtorEq, imp_false, Bool.not_eq_true] at this
      unfold lk at this
      rw [decide_eq_false_iff_not] at this
      have q : seg ds a b = (ds.drop a).take (b + 1 - a) := by unfold seg; congr 1; omega
      rw [q] at this
      by_cases hh : D ((ds.drop a).take (b + 1 - a)) ≤ there room s a
      · exact hh
      · exact absurd ⟨by omega, by omega, by omega, by omega⟩ this
    · intro h a ha
      rw [List.filterMap_eq_nil_iff]
      intro b hb
      rw [mem_rng] at ha hb
      rw [if_neg]
      unfold lk
      rw [decide_eq_true_iff]
      rintro ⟨p1, p2, p3, p4⟩
      obtain ⟨a', rfl⟩ := Int.eq_ofNat_of_zero_le p1
      obtain ⟨b', rfl⟩ := Int.eq_ofNat_of_zero_le (show 0 ≤ b by omega)
      have := h a' b' (by omega) (by omega)
      have q : seg ds a' b' = (ds.drop a').take (b' + 1 - a') := by unfold seg; congr 1; omega
      rw [q] at p4
      omega
  rw [e1, good_iff room (by omega), A_le ds h0]
  constructor
  · intro h
    constructor
    · intro k k1 k2
      rw [A_le _ (show 0 ≤ room by omega)]
      intro j hj
      rw [List.length_drop] at hj
      have := h k (k + j) (by omega) (by omega)
      unfold there at this
      rw [if_neg (by omega), show k + j + 1 - k = j + 1 by omega] at this
      exact this
    · intro j hj
      have := h 0 j (by omega) hj
      unfold there at this
      rw [if_pos (by omega)] at this
      simpa using this
  · rintro ⟨h2, h3⟩ a b hab hb
    cases a with
    | zero =>
      unfold there
      rw [if_pos (by omega)]
      simpa using h3 b hb
    | succ a =>
      have := h2 (a + 1) (by omega) (by omega)
      rw [A_le _ (show 0 ≤ room by omega)] at this
      have := this (b - (a + 1)) (by rw [List.length_drop]; omega)
      unfold there
      rw [if_neg (by omega), show b + 1 - (a + 1) = b - (a + 1) + 1 by omega]
      exact this
/-! ### what the code computes -/
theorem lasts_len (room : Int) : ∀ (ds : List (Int × Int)) (s : Int) (ls : List Int), ls.length ≠ ds.length → lasts room s ds ls = false
  | [], _, [], h => absurd rfl h
  | [], _, _ :: _, _ => rfl
  | _ :: _, _, [], _ => rfl
  | d :: r, s, l :: ls, h => by
    show (_ && lasts room _ r ls) = false
    rw [lasts_len room r _ ls (by simpa using h), Bool.and_false]
theorem do_loads (p : Int × Int) (ds : List (Int × Int)) (ls : List Int) : m_do_loads_last p ds ls = some (lasts p.1 p.2 ds ls) := by
  unfold m_do_loads_last
  by_cases hl : ls.length = ds.length
  · refine itf (by rw [hl, decide_eq_true rfl]; rfl) ?_
    have key : ∀ (ds : List (Int × Int)) (ls : List Int) (s : Int), ls.length = ds.length → (foldR (ρ := Bool) (β := Int) (fun (s5 : Int) (x6 : (Int × Int) × Int) => (some ((s5 + x6.2) - x6.1.2)).bind fun stock7 =>
        if ((!((decide ((0 : Int) ≤ x6.2)) && (decide (x6.2 ≤ x6.1.1)))) || (!((decide ((0 : Int) ≤ stock7)) && (decide (stock7 ≤ p.1))))) = true then (some (.ret false)) else some (.nx (stock7))) s (List.zip ds ls)).bind (Res.elim id fun (_ : Int) => some true) = some (lasts p.1 s ds ls) := by
      intro ds
      induction ds with
      | nil =>
        intro ls s h
        obtain rfl : ls = [] := List.eq_nil_of_length_eq_zero h
        rfl
      | cons d r ih =>
        intro ls s h
        cases ls with
        | nil => cases h
        | cons l ls =>
          rw [List.zip_cons_cons]
          unfold foldR
          show (((if _ then _ else _ : Option (Res Bool Int))).bind _).bind _ = some ((_ && _) && lasts p.1 (s + l - d.2) r ls)
          by_cases hc : (decide (0 ≤ l) && decide (l ≤ d.1) && (decide (0 ≤ s + l - d.2) && decide (s + l - d.2 ≤ p.1))) = true
          · rw [hc, if_neg (by rw [← Bool.not_and]; simp only [hc]; decide)]
            exact ih ls _ (by simpa using h)
          · rw [if_pos (by rw [← Bool.not_and, Bool.eq_false_iff.mpr hc]; rfl), Bool.eq_false_iff.mpr hc]
            rfl
    exact key ds ls p.2 hl
  · exact itt (by rw [decide_eq_false (by omega)]; rfl) (by rw [lasts_len _ _ _ _ hl])
theorem law_last (p : Int × Int) {ds : List (Int × Int)} (hd : ds.length ≤ 1000) (ls : List Int) : m__law_last p ds ls = some (lasts p.1 p.2 ds ls) := by
  unfold m__law_last
  by_cases hl : ls.length = ds.length
  · refine itf (by rw [hl, decide_eq_true rfl]; rfl) (bnd rfl (bnd (rngO_eq (by omega)) ?_))
    suffices key : ∀ (m k : Nat) (s : Int) (F : Int → Int → Option (Res Bool Int)), (∀ s (k : Nat) d l, ds[k]? = some d → ls[k]? = some l → F s (k : Int) = if (decide (l < 0) || (decide (d.1 < l) || (decide (s + l - d.2 < 0) || decide (p.1 < s + l - d.2)))) = true then some (.ret false) else some (.nx (s + l - d.2))) → k + m = ds.length →
        (foldR F s (rng (k : Int) ds.length)).bind (Res.elim id fun (_ : Int) => some true) = some (lasts p.1 s (ds.drop k) (ls.drop k)) by
      refine key ds.length 0 p.2 _ (fun s k d l h1 h2 => ?_) (by omega)
      simp only [atI_n, h1, h2, Option.bind_some, orO]
      cases decide (l < 0) <;> cases decide (d.1 < l) <;> cases decide (s + l - d.2 < 0) <;> cases decide (p.1 < s + l - d.2) <;> rfl
    intro m
    induction m with
    | zero =>
      intro k s F hF hk
      rw [rng_neg (by omega), List.drop_eq_nil_of_le (by omega), List.drop_eq_nil_of_le (by omega)]
      rfl
    | succ m ih =>
      intro k s F hF hk
      rw [rng_cons (by omega), List.drop_eq_getElem_cons (show k < ds.length by omega), List.drop_eq_getElem_cons (show k < ls.length by omega)]
      unfold foldR
      rw [hF s k ds[k] ls[k] (List.getElem?_eq_getElem _) (List.getElem?_eq_getElem _)]
      have e := ih (k + 1) (s + ls[k] - ds[k].2) F hF (by omega)
      rw [show ((k + 1 : Nat) : Int) = (k : Int) + 1 by omega] at e
      show _ = some ((_ && _) && lasts p.1 (s + ls[k] - ds[k].2) _ _)
      by_cases hc : (decide (0 ≤ ls[k]) && decide (ls[k] ≤ ds[k].1) && (decide (0 ≤ s + ls[k] - ds[k].2) && decide (s + ls[k] - ds[k].2 ≤ p.1))) = true
      · rw [hc, if_neg]
        · exact e
        · simp only [Bool.and_eq_true, decide_eq_true_eq] at hc
          simp only [Bool.or_eq_true, decide_eq_true_eq]
          omega
      · rw [if_pos, Bool.eq_false_iff.mpr hc]
        · rfl
        · simp only [Bool.and_eq_true, decide_eq_true_eq] at hc
          simp only [Bool.or_eq_true, decide_eq_true_eq]
          omega
  · exact itt (by rw [decide_eq_false (by omega)]; rfl) (by rw [lasts_len _ _ _ _ hl])
theorem sums_D (ds : List (Int × Int)) : D ds = (ds.map fun d => d.2).sum - (ds.map fun d => d.1).sum := by
  induction ds with
  | nil => rfl
  | cons d r ih => rw [D_cons, ih, List.map_cons, List.map_cons, List.sum_cons, List.sum_cons]; omega
theorem seg_cut {ds : List (Int × Int)} {a b : Int} (h : 0 ≤ a) (h2 : a ≤ b) : SM.cut ds (some a) (some (b + 1)) = seg ds a b := by
  rw [cut_mid h (by omega)]; unfold seg; congr 1; omega
theorem is_lack (p : Int × Int) (ds : List (Int × Int)) (a b : Int) : m_is_lack p ds a b = some (lk p.1 p.2 ds a b) := by
  unfold m_is_lack lk
  by_cases hc : 0 ≤ a ∧ a ≤ b ∧ b < ds.length
  · refine itf (by simp [hc.1, hc.2.1, hc.2.2]) (bnd rfl ?_)
    rw [seg_cut hc.1 hc.2.1]
    congr 1
    rw [decide_eq_decide, sums_D]
    unfold there
    by_cases h0 : a = 0
    · rw [if_pos h0, if_pos (decide_eq_true h0)]; omega
    · rw [if_neg h0, if_neg (by rw [decide_eq_true_iff]; exact h0)]; omega
  · refine itt (by simp only [Bool.not_eq_true', Bool.and_eq_false_iff, decide_eq_false_iff_not]; omega) ?_
    rw [decide_eq_false (by omega)]
theorem law_lack (p : Int × Int) (ds : List (Int × Int)) (a b : Int) : m__law_lack p ds a b = some (lk p.1 p.2 ds a b) := by
  unfold m__law_lack lk
  by_cases hc : 0 ≤ a ∧ a ≤ b ∧ b < ds.length
  · refine itf (by simp only [Bool.or_eq_false_iff, decide_eq_false_iff_not]; omega) (bnd rfl ?_)
    rw [seg_cut hc.1 hc.2.1]
    congr 1
    rw [decide_eq_decide]
    unfold there D
    by_cases h0 : a = 0
    · rw [if_pos h0, if_pos (decide_eq_true h0)]; omega
    · rw [if_neg h0, if_neg (by rw [decide_eq_true_iff]; exact h0)]; omega
  · refine itt (by simp only [Bool.or_eq_true, decide_eq_true_eq]; omega) ?_
    rw [decide_eq_false (by omega)]
theorem lacks_len (room s : Int) (ds : List (Int × Int)) : ∀ xs : List Int, (xs.flatMap fun a => (rng a ds.length).filterMap fun b => if lk room s ds a b = true then some (a, b) else none).length ≤ xs.length * ds.length ∨ ∃ a ∈ xs, a < 0
  | [] => .inl (by simp)
  | x :: xs => by
    by_cases hx : x < 0
    · exact .inr ⟨x, List.mem_cons_self, hx⟩
    · rcases lacks_len room s ds xs with h | ⟨a, h1, h2⟩
      · left
        rw [List.flatMap_cons, List.length_append, List.length_cons, Nat.succ_mul]
        have := List.length_filterMap_le (fun b => if lk room s ds x b = true then some (x, b) else none) (rng x ds.length)
        rw [rng_len] at this
        omega
      · exact .inr ⟨a, List.mem_cons_of_mem _ h1, h2⟩
theorem law_lacks (p : Int × Int) {ds : List (Int × Int)} (hd : ds.length ≤ 1000) : m__law_lacks p ds = some (lacksOf p.1 p.2 ds) := by
  unfold m__law_lacks lacksOf
  refine bnd rfl (bnd (rngO_eq (by omega)) (fold_bnd (fun q t => t = q.flatMap fun a => (rng a ds.length).filterMap fun b => if lk p.1 p.2 ds a b = true then some (a, b) else none) rfl ?_ fun t ht => by rw [ht]))
  rintro q x r t e rfl
  have hx : x ∈ rng 0 (ds.length : Int) := by rw [e]; simp
  have hq : ∀ a ∈ q, 0 ≤ a := fun a ha => (mem_rng.mp (show a ∈ rng 0 (ds.length : Int) by rw [e]; simp [ha])).1
  have hql : q.length ≤ ds.length := by
    have := congrArg List.length e
    rw [rng_len, List.length_append] at this
    omega
  rw [mem_rng] at hx
  refine ex_bind (rngO_eq (by omega)) (ex_bind (compM_ok (g := fun b => if lk p.1 p.2 ds x b = true then some (x, b) else none) fun b hb => ?_) (ex_bind (catO_eq ?_) ⟨_, rfl, ?_⟩))
  · rw [law_lack]
    show (if lk p.1 p.2 ds x b = true then _ else _) = _
    split <;> rfl
  · have h1 := List.length_filterMap_le (fun b => if lk p.1 p.2 ds x b = true then some (x, b) else none) (rng x ds.length)
    rw [rng_len] at h1
    rcases lacks_len p.1 p.2 ds q with h | ⟨a, h2, h3⟩
    · have : q.length * ds.length ≤ 1000 * 1000 := Nat.mul_le_mul (by omega) hd
      omega
    · exact absurd (hq a h2) (by omega)
  · rw [List.flatMap_append, List.flatMap_cons, List.flatMap_nil, List.append_nil]
theorem find_asR {ρ : Type} {p : Option ρ} : (some (asR p)).bind (Res.elim .ret fun (_ : Unit) => some (Res.nx ())) = some (asR p) := by cases p <;> rfl
theorem told_lack (p : Int × Int) {ds : List (Int × Int)} (hd : ds.length ≤ 1000) : m_told_lack p ds = some (lacksOf p.1 p.2 ds).head? := by
  unfold m_told_lack lacksOf
  refine bnd (rngO_eq (by omega)) (bnd (foldR_find (h := fun a => ((rng a ds.length).filterMap fun b => if lk p.1 p.2 ds a b = true then some (a, b) else none).head?.map some) fun a ha => ?_) ?_)
  · rw [mem_rng] at ha
    refine bnd (rngO_eq (by omega)) ?_
    rw [foldR_find (h := fun b => if lk p.1 p.2 ds a b = true then some (some (a, b)) else none)]
    · rw [find_asR, List.head?_filterMap]
      congr 2
      induction rng a ds.length with
      | nil => rfl
      | cons b r ih =>
        rw [List.findSome?_cons, List.findSome?_cons]
        by_cases hb : lk p.1 p.2 ds a b = true
        · rw [if_pos hb, if_pos hb]; rfl
        · rw [if_neg hb, if_neg hb]; exact ih
    · intro b hb
      rw [is_lack]
      show (if lk p.1 p.2 ds a b = true then _ else _) = _
      split <;> rfl
  · rw [List.head?_flatMap]
    have key : ∀ xs : List Int, (some (asR (xs.findSome? fun a => ((rng a ds.length).filterMap fun b => if lk p.1 p.2 ds a b = true then some (a, b) else none).head?.map some))).bind (Res.elim id fun (_ : Unit) => some none) = some (xs.findSome? fun a => ((rng a ds.length).filterMap fun b => if lk p.1 p.2 ds a b = true then some (a, b) else none).head?) := by
      intro xs
      induction xs with
      | nil => rfl
      | cons a r ih =>
        rw [List.findSome?_cons, List.findSome?_cons]
        cases ((rng a ds.length).filterMap fun b => if lk p.1 p.2 ds a b = true then some (a, b) else none).head? with
        | none => exact ih
        | some x => rfl
    exact key _
theorem asked_stocks {ds : List (Int × Int)} (hd : ds.length ≤ 1000) : m_asked_stocks ds = some (As ds) := by
  unfold m_asked_stocks
  refine bnd rfl ?_
  suffices key : ∀ ds : List (Int × Int), ds.length ≤ 1000 → List.foldlM (fun (s3 : List Int) (x4 : Int × Int) => (atI s3 (0 : Int)).bind fun t6 => (catO [(max (0 : Int) ((t6 + x4.2) - x4.1))] s3).bind fun asked8 => some asked8) [0] ds.reverse = some (As ds) by
    exact bnd (key ds hd) rfl
  intro ds
  induction ds with
  | nil => intro _; rfl
  | cons d r ih =>
    intro h
    rw [List.length_cons] at h
    rw [List.reverse_cons, foldlM_snoc, ih (by omega)]
    refine bnd rfl (bnd (x := A r) ?_ (bnd (catO_eq ?_) rfl))
    · rw [show (0 : Int) = ((0 : Nat) : Int) from rfl, atI_n, As_get r 0 (by omega), List.drop_zero]
    · rw [As_len, List.length_cons, List.length_nil]; omega
theorem enum_split {α : Type} {xs : List α} {p q : List (Int × α)} {x : Int × α} (h : enumI xs = p ++ x :: q) : x.1 = (p.length : Int) ∧ xs[p.length]? = some x.2 ∧ p.length < xs.length := by
  have h1 : (enumI xs)[p.length]? = some x := by rw [h]; simp
  unfold enumI at h1
  rw [List.getElem?_mapIdx] at h1
  cases hx : xs[p.length]? with
  | none => rw [hx] at h1; cases h1
  | some y =>
    rw [hx] at h1
    cases h1
    exact ⟨rfl, rfl, (List.getElem?_eq_some_iff.mp hx).1⟩
theorem G_len : ∀ (ds : List (Int × Int)) (s : Int), (G s ds).length = ds.length
  | [], _ => rfl
  | d :: r, s => by show (G _ r).length + 1 = _; rw [G_len r]; rfl
theorem told_loads (p : Int × Int) {ds : List (Int × Int)} (hd : ds.length ≤ 1000) : m_told_loads p ds = some (if lacksOf p.1 p.2 ds = [] then some (G p.2 ds) else none) := by
  unfold m_told_loads
  refine bnd (told_lack p hd) ?_
  cases hl : lacksOf p.1 p.2 ds with
  | cons x xs => exact itt rfl (by rw [if_neg (by simp)])
  | nil =>
    refine itf rfl (bnd (asked_stocks hd) (bnd rfl (bnd rfl (fold_bnd (fun q t => t.2 ++ G t.1 (ds.drop q.length) = G p.2 ds ∧ t.2.length = q.length) ⟨rfl, rfl⟩ ?_ ?_))))
    · rintro q x r t e ⟨h1, h2⟩
      obtain ⟨e1, e2, e3⟩ := enum_split e
      have hdr : ds.drop q.length = x.2 :: ds.drop (q.length + 1) := by
        obtain ⟨_, e4⟩ := List.getElem?_eq_some_iff.mp e2
        rw [← e4]; exact List.drop_eq_getElem_cons e3
      refine ex_bind (x := A (ds.drop (q.length + 1))) ?_ (ex_bind rfl (ex_bind rfl (ex_bind (appO_eq (by omega)) ⟨_, rfl, ?_, ?_⟩)))
      · rw [e1, show (q.length : Int) + 1 = ((q.length + 1 : Nat) : Int) by omega, atI_n, As_get _ _ (by omega)]
      · rw [hdr] at h1
        rw [List.length_append, List.length_singleton, List.append_assoc]
        exact h1
      · rw [List.length_append, List.length_append, h2]; rfl
    · rintro t ⟨h1, h2⟩
      have hlen : (enumI ds).length = ds.length := by unfold enumI; rw [List.length_mapIdx]
      rw [hlen, List.drop_length] at h1
      rw [if_pos rfl, ← h1]
      show some (some t.2) = some (some (t.2 ++ []))
      rw [List.append_nil]
def stepf (room : Int) (d : Int × Int) (p : List Int × Int) : List (List Int × Int) := ((rng 0 (d.1 + 1)).filter (okl room p.2 d)).map fun l => (p.1 ++ [l], p.2 + l - d.2)
theorem every_fold (room : Int) : ∀ (ds : List (Int × Int)) (E : List (List Int × Int)), (ds.foldl (fun E d => E.flatMap (stepf room d)) E).map Prod.fst = E.flatMap fun p => (every room p.2 ds).map (p.1 ++ ·)
  | [], E => by
    show E.map Prod.fst = _
    induction E with
    | nil => rfl
    | cons p E ih => rw [List.map_cons, List.flatMap_cons, ih]; simp [every]
  | d :: r, E => by
    rw [List.foldl_cons, every_fold room r]
    induction E with
    | nil => rfl
    | cons p E ih =>
      rw [List.flatMap_cons, List.flatMap_append, ih, List.flatMap_cons]
      congr 1
      show (stepf room d p).flatMap _ = (((rng 0 (d.1 + 1)).filter (okl room p.2 d)).flatMap fun l => (every room (p.2 + l - d.2) r).map (l :: ·)).map (p.1 ++ ·)
      unfold stepf
      rw [List.flatMap_map, List.map_flatMap]
      congr 1
      funext l
      rw [List.map_map]
      congr 1
      funext x
      simp
theorem stepf_len {room : Int} {d : Int × Int} (h : d.1 ≤ 3) (p : List Int × Int) : (stepf room d p).length ≤ 4 := by
  unfold stepf
  rw [List.length_map]
  refine Nat.le_trans (List.length_filter_le _ _) ?_
  rw [rng_len]; omega
theorem flat_len {α β : Type} {f : α → List β} {c : Nat} : ∀ {xs : List α}, (∀ x ∈ xs, (f x).length ≤ c) → (xs.flatMap f).length ≤ xs.length * c
  | [], _ => by simp
  | x :: xs, h => by
    rw [List.flatMap_cons, List.length_append, List.length_cons, Nat.succ_mul]
    have := flat_len (f := f) (c := c) (xs := xs) fun y hy => h y (List.mem_cons_of_mem _ hy)
    have := h x List.mem_cons_self
    omega
theorem law_every (p : Int × Int) {ds : List (Int × Int)} (hd : ds.length ≤ 5) (h3 : ∀ d ∈ ds, d.1 ≤ 3 ∧ 0 ≤ d.1) : m__law_every p ds = some (every p.1 p.2 ds) := by
  unfold m__law_every
  refine bnd rfl (fold_bnd (fun q t => t = q.foldl (fun E d => E.flatMap (stepf p.1 d)) [([], p.2)] ∧ t.length ≤ 4 ^ q.length ∧ ∀ e ∈ t, e.1.length = q.length) ⟨rfl, Nat.le_refl _, by simp⟩ ?_ ?_)
  · rintro q d r t e ⟨h1, h2, h4⟩
    have hdm : d ∈ ds := by rw [e]; simp
    obtain ⟨d3, d0⟩ := h3 d hdm
    have hq : q.length + r.length + 1 ≤ 5 := by
      have := congrArg List.length e
      rw [List.length_append, List.length_cons] at this
      omega
    have h5 : 4 ^ q.length ≤ 4 ^ 4 := Nat.pow_le_pow_right (by decide) (by omega)
    refine ex_bind rfl (ex_fold (fun q' t' => t' = q'.flatMap (stepf p.1 d)) rfl ?_ ?_)
    · rintro q' x r' t' e' rfl
      have hx : x ∈ t := by rw [e']; simp
      have hq' : q'.length ≤ 4 ^ 4 := by
        have := congrArg List.length e'
        rw [List.length_append, List.length_cons] at this
        omega
      refine ex_bind (rngO_eq (by omega)) (ex_bind rfl (ex_bind (x := stepf p.1 d x) ?_ (ex_bind (catO_eq ?_) ⟨_, rfl, ?_⟩)))
      · rw [List.map_id']
        exact compM_get' fun l hl => bnd (catO_eq (by rw [h4 x hx, List.length_singleton]; omega)) rfl
      · have := flat_len (f := stepf p.1 d) (xs := q') (c := 4) fun y _ => stepf_len d3 y
        have := stepf_len (room := p.1) d3 x
        have : q'.length * 4 ≤ 4 ^ 4 * 4 := Nat.mul_le_mul_right _ hq'
        have : (4 : Nat) ^ 4 * 4 = 1024 := by decide
        omega
      · rw [List.flatMap_append, List.flatMap_cons, List.flatMap_nil, List.append_nil]
    · rintro t' rfl
      refine ex_bind rfl ⟨_, rfl, ?_, ?_, ?_⟩
      · rw [List.foldl_append, ← h1]; rfl
      · rw [List.length_append, List.length_singleton, Nat.pow_succ]
        exact Nat.le_trans (flat_len fun y _ => stepf_len d3 y) (Nat.mul_le_mul_right _ h2)
      · intro y hy
        obtain ⟨x, hx, hm⟩ := List.mem_flatMap.mp hy
        unfold stepf at hm
        obtain ⟨l, _, rfl⟩ := List.mem_map.mp hm
        show (x.1 ++ [l]).length = _
        rw [List.length_append, h4 x hx, List.length_append]; rfl
  · rintro t ⟨h1, _, _⟩
    have e := every_fold p.1 ds [([], p.2)]
    rw [← h1] at e
    show some (List.map Prod.fst t) = _
    rw [e]
    simp
theorem all_true {bs : List Bool} (h : ∀ b ∈ bs, b = true) : bs.all id = true := by
  rw [List.all_eq_true]; exact h
theorem asked_pairs (p : Int × Int) {ds : List (Int × Int)} {dr : List Int} (hr : Dr dr 6) : m__law_asked_pairs p ds dr = some true := by
  unfold m__law_asked_pairs
  refine bnd rfl (bnd rfl (bnd (rngO_eq (by omega)) (fold_rngI (fun k t => t.length = 7 + k) (by decide) rfl ?_ ?_)))
  · intro k t hk ht
    obtain ⟨d, e, a, b⟩ := hr.at (i := (k : Int)) (by omega) hk
    refine ex_bind e (ex_bind (modO_eq (by omega)) (ex_bind e (ex_bind (modO_eq (by omega)) (ex_bind (appO_eq (by omega)) ⟨_, rfl, ?_⟩))))
    rw [List.length_append, ht]; rfl
  · intro t ht
    refine bnd (compM_get' (g := fun _ => true) fun x hx => bnd (is_lack _ _ _ _) (bnd (law_lack _ _ _ _) (bnd is_eB ?_))) ?_
    · rw [decide_eq_true rfl]
    · congr 1
      refine all_true fun b hb => ?_
      obtain ⟨x, _, rfl⟩ := List.mem_map.mp hb
      rfl
theorem A_zero : ∀ {ds : List (Int × Int)} (room : Int), 0 ≤ room → (∀ d ∈ ds, d.2 ≤ d.1) → A ds = 0 ∧ good room ds
  | [], _, _, _ => ⟨rfl, trivial⟩
  | d :: r, room, h0, h => by
    obtain ⟨a, g⟩ := A_zero (ds := r) room h0 fun x hx => h x (List.mem_cons_of_mem _ hx)
    have := h d List.mem_cons_self
    refine ⟨?_, by omega, g⟩
    unfold A; omega
theorem A_last : ∀ {ds : List (Int × Int)} (room s : Int), 0 ≤ room → s ≤ room → ¬(good room (ds ++ [(0, room + 1)]) ∧ A (ds ++ [(0, room + 1)]) ≤ s)
  | [], room, s, h0, h1, ⟨g, h⟩ => by
    have : max 0 (A [] + (room + 1) - 0) ≤ s := h
    unfold A at this
    omega
  | d :: r, room, s, h0, h1, ⟨g, h⟩ => A_last (ds := r) room room h0 (Int.le_refl _) ⟨g.2, g.1⟩
theorem isn_OT {x : Option (List Int)} (h : ∀ y, x = some y → y.length ≤ 8388608) : m__law_is ((eO (eT eI)) x) ((eO (eT eI)) x) = some true :=
  law_is_rfl (isEq_OT isEq_I) (okD_O fun y hy => okD_T (h y hy) fun _ _ => okD_I)
theorem isn_OP {x : Option (Int × Int)} : m__law_is ((eO (eP2 eI eI)) x) ((eO (eP2 eI eI)) x) = some true :=
  law_is_rfl (isEq_OP2 isEq_I isEq_I) (okD_O fun y hy => okD_P2 okD_I okD_I)
theorem isn_B {x : Bool} : m__law_is (eB x) (eB x) = some true := law_is_rfl isEq_B okD_B
theorem G_drop : ∀ (ds : List (Int × Int)) (s : Int) (k : Nat), (G s ds).drop k = G (s + ((G s ds).take k).sum - need (ds.take k)) (ds.drop k)
  | ds, s, 0 => by simp [need]
  | [], s, k + 1 => rfl
  | d :: r, s, k + 1 => by
    show (G _ r).drop k = G (s + (_ :: (G _ r).take k).sum - need (d :: r.take k)) (r.drop k)
    rw [G_drop r _ k, List.sum_cons, need_cons]
    congr 1
    omega
theorem great (script : List Int) : m__law_great script = some true := by
  obtain ⟨c, hc⟩ := cell_ok script (k := 3) (by omega)
  obtain ⟨dr, hdr, D0⟩ := draws_dr c (n := 40) (by omega) (by omega)
  obtain ⟨d0, e0, a0, b0⟩ := D0.at (i := 0) (by omega) (by omega)
  obtain ⟨d1, e1, a1, b1⟩ := D0.at (i := 1) (by omega) (by omega)
  obtain ⟨d22, e22, a22, b22⟩ := D0.at (i := 22) (by omega) (by omega)
  obtain ⟨d23, e23, a23, b23⟩ := D0.at (i := 23) (by omega) (by omega)
  unfold m__law_great
  refine bnd hc (bnd hdr (bnd e0 (bnd rfl (bnd e1 (bnd (modO_eq (by omega)) (bnd rfl (bnd e22 (bnd (rngO_eq (by omega)) ?_))))))))
  have hp : 0 ≤ d1 % (d0 % 101 + 1) ∧ d1 % (d0 % 101 + 1) ≤ d0 % 101 := ⟨Int.emod_nonneg _ (by omega), Int.lt_add_one_iff.mp (Int.emod_lt_of_pos _ (by omega))⟩
  generalize hlarder : ((d0 % 101, d1 % (d0 % 101 + 1)) : Int × Int) = p
  have hp1 : 0 ≤ p.2 ∧ p.2 ≤ p.1 := by rw [← hlarder]; exact hp
  have hdays : ∃ days : List (Int × Int), (compM (fun (x12 : Int) => ((atI dr ((2 : Int) + x12)).bind fun t13 => ((atI dr ((12 : Int) + x12)).bind fun t14 => (some (some ((t13 % (101 : Int)), (t14 % (90 : Int)))))))) (rng 0 (d22 % 11))) = some days ∧ days.length ≤ 10 ∧ NN days := by
    have key : ∀ x ∈ rng 0 (d22 % 11), ∃ d : Int × Int, ((atI dr ((2 : Int) + x)).bind fun t13 => ((atI dr ((12 : Int) + x)).bind fun t14 => (some (some ((t13 % (101 : Int)), (t14 % (90 : Int))))))) = some (some d) ∧ 0 ≤ d.1 ∧ 0 ≤ d.2 := by
      intro x hx
      rw [mem_rng] at hx
      obtain ⟨u, e3, a3, b3⟩ := D0.at (i := 2 + x) (by omega) (by omega)
      obtain ⟨v, e4, a4, b4⟩ := D0.at (i := 12 + x) (by omega) (by omega)
      exact ⟨_, bnd e3 (bnd e4 rfl), Int.emod_nonneg _ (by decide), Int.emod_nonneg _ (by decide)⟩
    obtain ⟨ys, h1, h2, h3⟩ := compM_ex key
    exact ⟨ys, h1, by rw [h2, rng_len]; omega, fun d hd => h3 d hd⟩
  obtain ⟨days0, hd1, hd2, hd3⟩ := hdays
  refine bnd hd1 (bnd e23 ?_)
  have hj : ∃ days : List (Int × Int), (if (decide ((d23 % (2 : Int)) = (0 : Int))) = true then ((some (List.map (fun (x23 : (Int × Int)) => ((x23.1 + (25 : Int)), (min x23.2 (x23.1 + (20 : Int))))) days0)).bind fun days24 =>
      (some (List.map (fun (x25 : (Int × Int)) => ((min x25.1 (100 : Int)), x25.2)) days24)).bind fun days26 => some (days26)) else (some (days0))) = some days ∧ days.length ≤ 10 ∧ NN days := by
    by_cases h : d23 % 2 = 0
    · refine ⟨_, itt (decide_eq_true h) rfl, by rw [List.length_map, List.length_map]; exact hd2, ?_⟩
      intro d hd
      obtain ⟨d', hd', rfl⟩ := List.mem_map.mp hd
      obtain ⟨d'', hd'', rfl⟩ := List.mem_map.mp hd'
      have := hd3 d'' hd''
      show 0 ≤ min (d''.1 + 25) 100 ∧ 0 ≤ min d''.2 (d''.1 + 20)
      omega
    · exact ⟨_, itf (decide_eq_false h) rfl, hd2, hd3⟩
  obtain ⟨days, hj1, hlen, hnn⟩ := hj
  refine bnd hj1 (bnd (law_lacks p (by omega)) (bnd (told_lack p (by omega)) (bnd headO (bnd isn_OP (itf rfl (bnd (asked_pairs p (D0.cut (i := 24) (j := 30) (by omega) (by omega) (by omega))) (itf rfl (bnd (told_loads p (by omega)) ?_))))))))
  cases hl : lacksOf p.1 p.2 days with
  | cons x xs =>
    refine itt ?_ ?_
    · rw [decide_eq_true_iff, List.length_cons]; omega
    · rw [if_neg (by simp)]; rfl
  | nil =>
    obtain ⟨hg, ha⟩ := (lacks_nil hp1.1 hp1.2 days).mp hl
    rw [if_pos rfl]
    refine itf rfl (bnd (x := false) ?_ (itf rfl (bnd rfl (itf ?_ (bnd (rngO_eq (by omega)) (foldR_bnd ?_ rfl))))))
    · have hi : m__law_is_integers (some (G p.2 days)) = some true := by
        unfold m__law_is_integers
        refine bnd (x := true) ?_ rfl
        rw [show isInst "tuple" (eO (eT eI) (some (G p.2 days))) = true from rfl, andO_t]
        refine bnd rfl (bnd (compM_get' (g := fun _ => true) fun x _ => bnd rfl rfl) ?_)
        congr 1
        refine all_true fun b hb => ?_
        obtain ⟨x, _, rfl⟩ := List.mem_map.mp hb
        rfl
      rw [hi, Option.bind_some, Option.bind_some, law_last p (by omega), lasts_G p.1 days p.2 hnn hp1.1 hp1.2 hg ha]
      rfl
    · rw [sum_G days p.2 hnn hp1.1 ha]
      show (!decide (_ = max 0 (need days - p.2))) = false
      rw [decide_eq_true rfl]; rfl
    · intro x hx
      rw [mem_rng] at hx
      obtain ⟨k, rfl⟩ := Int.eq_ofNat_of_zero_le hx.1
      have hk : k < days.length := by omega
      have hkG : k < (G p.2 days).length := by rw [G_len]; exact hk
      have eG : atI (G p.2 days) (k : Int) = some (G p.2 days)[k] := by rw [atI_n]; exact List.getElem?_eq_getElem hkG
      have eD : atI days (k : Int) = some days[k] := by rw [atI_n]; exact List.getElem?_eq_getElem hk
      refine bnd rfl (bnd eG ?_)
      refine bnd (x := .nx ()) ?_ rfl
      by_cases hpos : 0 < (G p.2 days)[k]
      · refine itt (decide_eq_true hpos) (bnd rfl (bnd rfl (bnd rfl (bnd eG (bnd eD (bnd rfl (bnd rfl (bnd (x := false) ?_ (itf rfl rfl)))))))))
        rw [cut_take (by omega), cut_take (by omega), cut_drop (by omega)]
        have e5 := G_drop days p.2 k
        rw [List.drop_eq_getElem_cons hkG, List.drop_eq_getElem_cons hk] at e5
        have e6 : (G p.2 days)[k] = max 0 (days[k].2 + A (days.drop (k + 1)) - (p.2 + ((G p.2 days).take k).sum - need (days.take k))) := (List.cons.inj e5).1
        have ex : (p.2 + ((G p.2 days).take ((k : Int).toNat)).sum - (((days.take ((k : Int).toNat)).map fun (x60 : Int × Int) => x60.2).sum)) + (G p.2 days)[k] - 1 - days[k].2 = A (days.drop (k + 1)) - 1 := by
          rw [Int.toNat_natCast]
          show p.2 + ((G p.2 days).take k).sum - need (days.take k) + (G p.2 days)[k] - 1 - days[k].2 = _
          omega
        rw [ex, show ((k : Int) + 1).toNat = k + 1 by omega]
        by_cases hA : 0 ≤ A (days.drop (k + 1)) - 1
        · rw [decide_eq_true hA]
          rw [andO_t]
          refine bnd (law_lacks _ (by rw [List.length_drop]; omega)) ?_
          have hne : ¬(A (days.drop (k + 1)) ≤ A (days.drop (k + 1)) - 1) := by omega
          rw [A_le _ hA] at hne
          have hex : ∃ j, j < (days.drop (k + 1)).length ∧ A (days.drop (k + 1)) - 1 < D ((days.drop (k + 1)).take (j + 1)) := by
            by_cases hz : ∃ j, j < (days.drop (k + 1)).length ∧ A (days.drop (k + 1)) - 1 < D ((days.drop (k + 1)).take (j + 1))
            · exact hz
            · exact absurd (fun j hj => by
                by_cases h9 : D ((days.drop (k + 1)).take (j + 1)) ≤ A (days.drop (k + 1)) - 1
                · exact h9
                · exact absurd ⟨j, hj, by omega⟩ hz) hne
          obtain ⟨j, hj1, hj2⟩ := hex
          have hm : ((0 : Int), (j : Int)) ∈ lacksOf p.1 (A (days.drop (k + 1)) - 1) (days.drop (k + 1)) := by
            unfold lacksOf
            rw [List.mem_flatMap]
            refine ⟨0, mem_rng.mpr ⟨by omega, by omega⟩, ?_⟩
            rw [List.mem_filterMap]
            refine ⟨(j : Int), mem_rng.mpr ⟨by omega, by omega⟩, ?_⟩
            rw [if_pos]
            unfold lk there seg
            rw [decide_eq_true_iff, if_pos rfl]
            refine ⟨by omega, by omega, by omega, ?_⟩
            rw [show ((j : Int) + 1 - 0).toNat = j + 1 by omega]
            simpa using hj2
          congr 1
          rw [decide_eq_false_iff_not, List.map_id']
          intro h0
          have hf : ((0 : Int), (j : Int)) ∈ List.filter (fun (x68 : Int × Int) => decide (x68.1 = 0)) (lacksOf p.1 (A (days.drop (k + 1)) - 1) (days.drop (k + 1))) := List.mem_filter.mpr ⟨hm, by rfl⟩
          have := List.length_pos_of_mem hf
          change ((List.filter (fun (x68 : Int × Int) => decide (x68.1 = 0)) (lacksOf p.1 (A (days.drop (k + 1)) - 1) (days.drop (k + 1)))).length : Int) = 0 at h0
          omega
        · rw [decide_eq_false hA]; rfl
      · exact itf (decide_eq_false hpos) rfl
theorem min_of {xs : List Int} {m : Int} (h : m ∈ xs) (h2 : ∀ x ∈ xs, m ≤ x) : xs.min? = some m := by
  rw [List.min?_eq_some_iff]; exact ⟨h, h2⟩
theorem turn (p : Int × Int) {x : Int} {ds : List (Int × Int)} {dr : List Int} (hp0 : 0 ≤ p.2) (hp1 : p.2 ≤ p.1) (D0 : Dr dr 50) (hl : ds.length ≤ 5) (hn : NN ds) (h3 : ∀ d ∈ ds, d.1 ≤ 3) (hx0 : x = 0 → ∀ d ∈ ds, d.2 ≤ d.1) (hx1 : x = 1 → ∃ pre, ds = pre ++ [(0, p.1 + 1)]) :
    lacksOf p.1 p.2 ds = [] ↔ every p.1 p.2 ds ≠ [] := by
  rw [lacks_nil hp0 hp1]
  constructor
  · intro h e
    have := (every_head p.1 ds p.2 hn hp0 hp1).1 h
    rw [e] at this; cases this
  · intro h
    by_cases hh : good p.1 ds ∧ A ds ≤ p.2
    · exact hh
    · exact absurd ((every_head p.1 ds p.2 hn hp0 hp1).2 hh) h
theorem law_true (script : List Int) (hlen : script.length ≤ 63) : m_law script = some true := by
  unfold m_law
  refine bnd (rngO_eq (by omega)) (foldR_bnd ?_ (bnd (great script) rfl))
  intro x hx
  rw [mem_rng] at hx
  obtain ⟨c, hc⟩ := cell_ok script hx.1
  obtain ⟨dr, hdr, D0⟩ := draws_dr c (n := 50) (by omega) (by omega)
  obtain ⟨d0, e0, a0, b0⟩ := D0.at (i := 0) (by omega) (by omega)
  obtain ⟨d1, e1, a1, b1⟩ := D0.at (i := 1) (by omega) (by omega)
  obtain ⟨d2, e2, a2, b2⟩ := D0.at (i := 2) (by omega) (by omega)
  refine bnd hc (bnd hdr (bnd e0 (bnd rfl (bnd e1 (bnd (modO_eq (by omega)) (bnd rfl (bnd rfl (bnd e2 (bnd (rngO_eq (by omega)) ?_)))))))))
  have hp : 0 ≤ d1 % (d0 % 7 + 1) ∧ d1 % (d0 % 7 + 1) ≤ d0 % 7 := ⟨Int.emod_nonneg _ (by omega), Int.lt_add_one_iff.mp (Int.emod_lt_of_pos _ (by omega))⟩
  have hroom : 0 ≤ d0 % 7 := by omega
  refine fold_rngI (fun k t => t.length = k ∧ ∀ d ∈ t, (0 ≤ d.1 ∧ 0 ≤ d.2) ∧ d.1 ≤ 3) (by omega) ⟨rfl, by simp⟩ ?_ ?_
  · rintro k t hk ⟨h1, h2⟩
    obtain ⟨u, eu, au, bu⟩ := D0.at (i := 3 + k) (by omega) (by omega)
    obtain ⟨v, ev, av, bv⟩ := D0.at (i := 8 + k) (by omega) (by omega)
    refine ex_bind eu (ex_bind ev (ex_bind (appO_eq (by omega)) ⟨_, rfl, by rw [List.length_append, h1]; rfl, fun d hd => ?_⟩))
    rcases List.mem_append.mp hd with h | h
    · exact h2 d h
    · rw [List.mem_singleton.mp h]
      show (0 ≤ u % 4 ∧ 0 ≤ v % 4) ∧ u % 4 ≤ 3
      omega
  rintro t ⟨ht1, ht2⟩
  have htl : t.length ≤ 5 := by omega
  -- turn 0
  have hj1 : ∃ j : List (Int × Int), (if (decide (x = (0 : Int))) = true then ((some (List.map (fun (x24 : (Int × Int)) => (x24.1, (min x24.2 x24.1))) t)).bind fun days25 => some (days25)) else (some (t))) = some j ∧ j.length ≤ 5 ∧ (∀ d ∈ j, (0 ≤ d.1 ∧ 0 ≤ d.2) ∧ d.1 ≤ 3) ∧ (x = 0 → ∀ d ∈ j, d.2 ≤ d.1) := by
    by_cases h : x = 0
    · refine ⟨_, itt (decide_eq_true h) rfl, by rw [List.length_map]; exact htl, fun d hd => ?_, fun _ d hd => ?_⟩
      all_goals
        obtain ⟨d', hd', rfl⟩ := List.mem_map.mp hd
        have := ht2 d' hd'
      · show (0 ≤ d'.1 ∧ 0 ≤ min d'.2 d'.1) ∧ d'.1 ≤ 3
        omega
      · show min d'.2 d'.1 ≤ d'.1
        omega
    · exact ⟨_, itf (decide_eq_false h) rfl, htl, ht2, fun z => absurd z h⟩
  obtain ⟨j, hj1, hj2, hj3, hj4⟩ := hj1
  refine bnd hj1 ?_
  have hj5 : ∃ ds : List (Int × Int), (if (decide (x = (1 : Int))) = true then ((catO (SM.cut j none (some (4 : Int))) [((0 : Int), (d0 % 7 + (1 : Int)))]).bind fun days30 => some (days30)) else (some (j))) = some ds ∧ ds.length ≤ 5 ∧ (∀ d ∈ ds, (0 ≤ d.1 ∧ 0 ≤ d.2) ∧ d.1 ≤ 3) ∧ (x = 0 → ∀ d ∈ ds, d.2 ≤ d.1) ∧ (x = 1 → ∃ pre, ds = pre ++ [(0, d0 % 7 + 1)]) := by
    by_cases h : x = 1
    · rw [cut_take (by omega)]
      refine ⟨_, itt (decide_eq_true h) (bnd (catO_eq (by rw [List.length_take, List.length_singleton]; omega)) rfl), ?_, fun d hd => ?_, fun z => absurd (z.symm.trans h) (by decide), fun _ => ⟨_, rfl⟩⟩
      · rw [List.length_append, List.length_take, List.length_singleton]
        show min 4 j.length + 1 ≤ 5
        omega
      · rcases List.mem_append.mp hd with h | h
        · exact hj3 d (List.mem_of_mem_take h)
        · rw [List.mem_singleton.mp h]
          show ((0 : Int) ≤ 0 ∧ 0 ≤ d0 % 7 + 1) ∧ (0 : Int) ≤ 3
          omega
    · exact ⟨_, itf (decide_eq_false h) rfl, hj2, hj3, hj4, fun z => absurd z h⟩
  obtain ⟨ds, hd1, hd2, hd3, hd4, hd5⟩ := hj5
  refine bnd hd1 (bnd rfl ?_)
  generalize hlarder : ((d0 % 7, d1 % (d0 % 7 + 1)) : Int × Int) = p
  have hp0 : 0 ≤ p.2 := by rw [← hlarder]; exact hp.1
  have hp1 : p.2 ≤ p.1 := by rw [← hlarder]; exact hp.2
  have hp2 : p.1 = d0 % 7 := by rw [← hlarder]
  have hnn : NN ds := fun d hd => (hd3 d hd).1
  have hT := turn p (x := x) (ds := ds) hp0 hp1 D0 hd2 hnn (fun d hd => (hd3 d hd).2) hd4 (fun z => by rw [hp2]; exact hd5 z)
  refine bnd (law_every p hd2 fun d hd => ⟨(hd3 d hd).2, (hd3 d hd).1.1⟩) (bnd (law_lacks p (by omega)) ?_)
  have hfz : x = 0 → lacksOf p.1 p.2 ds = [] := fun z => by
    obtain ⟨h1, h2⟩ := A_zero p.1 (by omega) (hd4 z)
    exact (lacks_nil hp0 hp1 ds).mpr ⟨h2, by omega⟩
  have hfo : x = 1 → lacksOf p.1 p.2 ds ≠ [] := fun z e => by
    obtain ⟨pre, e2⟩ := hd5 z
    rw [e2, ← hp2] at e
    exact A_last p.1 p.2 (by omega) hp1 ((lacks_nil hp0 hp1 _).mp e)
  have hhead : (if lacksOf p.1 p.2 ds = [] then some (G p.2 ds) else none) = (every p.1 p.2 ds).head? := by
    by_cases h : lacksOf p.1 p.2 ds = []
    · rw [if_pos h, (every_head p.1 ds p.2 hnn hp0 hp1).1 ((lacks_nil hp0 hp1 ds).mp h)]
    · rw [if_neg h, (every_head p.1 ds p.2 hnn hp0 hp1).2 fun z => h ((lacks_nil hp0 hp1 ds).mpr z)]; rfl
  have hsum := every_sum p.1 ds p.2 hnn hp0
  generalize hE : every p.1 p.2 ds = E at *
  generalize hL : lacksOf p.1 p.2 ds = L at *
  have hcond : ((!(decide ((decide ((0 : Int) < ((List.length E : Nat) : Int))) = (decide (((List.length L : Nat) : Int) = (0 : Int)))))) || (((decide (x = (0 : Int))) && (decide (((List.length E : Nat) : Int) = (0 : Int)))) || ((decide (x = (1 : Int))) && (decide ((0 : Int) < ((List.length E : Nat) : Int)))))) = false := by
    cases L with
    | nil =>
      have hne := hT.mp rfl
      have h1 : x ≠ 1 := fun z => hfo z rfl
      cases E with
      | nil => exact absurd rfl hne
      | cons e E =>
        have hz : (0 : Int) < ((List.length (e :: E) : Nat) : Int) := by rw [List.length_cons]; omega
        rw [decide_eq_true hz, decide_eq_false h1, decide_eq_false (show ¬(((List.length (e :: E) : Nat) : Int) = 0) by omega)]
        simp
    | cons l L =>
      have h0 : x ≠ 0 := fun z => by cases hfz z
      cases E with
      | cons e E => exact absurd (hT.mpr (by simp)) (by simp)
      | nil =>
        have hz : ¬(((List.length (l :: L) : Nat) : Int) = 0) := by rw [List.length_cons]; omega
        rw [decide_eq_false hz, decide_eq_false h0]
        simp
  refine itf hcond (bnd (told_loads p (by omega)) (bnd headO ?_))
  rw [hL, hhead]
  have hhl : ∀ y, E.head? = some y → y ∈ E := fun y hy => List.mem_of_head? hy
  refine bnd (isn_OT fun y hy => by rw [(hsum y (hhl y hy)).2.2]; omega) (itf rfl (bnd (told_lack p (by omega)) (bnd headO ?_)))
  rw [hL]
  refine bnd isn_OP (itf rfl (bnd rfl (bnd (x := false) ?_ (itf rfl (bnd (rngO_eq (by omega)) (foldR_bnd ?_ ?_))))))
  · cases hE2 : E with
    | nil => rfl
    | cons e E' =>
      rw [hE2] at hhead hsum
      have hLn : L = [] := by
        by_cases h : L = []
        · exact h
        · rw [if_neg h] at hhead; cases hhead
      rw [if_pos hLn] at hhead
      obtain rfl : G p.2 ds = e := by injection hhead
      have hsG := sum_G ds p.2 hnn hp0 ((lacks_nil hp0 hp1 ds).mp (hL.trans hLn)).2
      have hneed : (ds.map fun (x44 : Int × Int) => x44.2).sum = need ds := rfl
      rw [hneed, decide_eq_true (show (0 : Int) < ((List.length (G p.2 ds :: E') : Nat) : Int) by rw [List.length_cons]; omega), andO_t, show atI (G p.2 ds :: E') (0 : Int) = some (G p.2 ds) from atI_n (xs := G p.2 ds :: E') 0]
      rw [min_of (m := max 0 (need ds - p.2)) (by rw [← hsG]; simp) (by
        intro y hy
        obtain ⟨z, hz, rfl⟩ := List.mem_map.mp hy
        have := hsum z hz
        omega)]
      show (orO (some (!decide ((G p.2 ds).sum = _))) (some (!decide (max 0 (need ds - p.2) = max 0 (need ds - p.2))))).bind _ = _
      rw [hsG, decide_eq_true rfl]
      rfl
  · intro y hy
    rw [mem_rng] at hy
    refine bnd rfl ?_
    have hb : ∃ b : List Int, (if ((decide ((0 : Int) < ((List.length E : Nat) : Int))) && (decide (y < (5 : Int)))) = true then ((atI dr ((13 : Int) + y)).bind fun t61 => (modO t61 ((List.length E : Nat) : Int)).bind fun t62 => (atI E t62).bind fun base64 => some (base64)) else (some (List.map (fun (x54 : (Int × Int)) => x54.1) ds))) = some b ∧ b.length ≤ 5 := by
      by_cases h : ((decide ((0 : Int) < ((List.length E : Nat) : Int))) && (decide (y < (5 : Int)))) = true
      · have h' := h
        simp only [Bool.and_eq_true, decide_eq_true_eq] at h'
        obtain ⟨u, eu, au, bu⟩ := D0.at (i := 13 + y) (by omega) (by omega)
        obtain ⟨b, e3, m3, _⟩ := atI_lt (xs := E) (i := u % (E.length : Int)) (Int.emod_nonneg _ (by omega)) (Int.emod_lt_of_pos _ h'.1)
        exact ⟨b, itt h (bnd eu (bnd (modO_eq h'.1) (bnd e3 rfl))), by rw [(hsum b m3).2.2]; exact hd2⟩
      · exact ⟨_, itf (Bool.eq_false_iff.mpr h) rfl, by rw [List.length_map]; exact hd2⟩
    obtain ⟨b, hb1, hb2⟩ := hb
    refine bnd hb1 ?_
    have ha : ∃ a : List Int, (if (decide ((y % (5 : Int)) = (0 : Int))) = true then (some b) else ((m__law_bent b (SM.cut dr (some ((19 : Int) + ((3 : Int) * y))) (some ((22 : Int) + ((3 : Int) * y)))) (4 : Int)).bind fun t65 => (some t65))) = some a := by
      by_cases h : y % 5 = 0
      · exact ⟨_, itt (decide_eq_true h) rfl⟩
      · obtain ⟨a, h1, _⟩ := bent_ok (row := b) (most := 4) (by omega) (D0.cut (i := 19 + 3 * y) (j := 22 + 3 * y) (by omega) (by omega) (by omega)) (by omega) (by omega)
        exact ⟨a, itf (decide_eq_false h) (bnd h1 rfl)⟩
    obtain ⟨a, ha⟩ := ha
    refine bnd ha (bnd (do_loads p ds a) (bnd (law_last p (by omega) a) (bnd isn_B (itf rfl rfl))))
  · exact bnd (asked_pairs p (D0.cut (i := 40) (j := 46) (by omega) (by omega) (by omega))) (itf rfl rfl)
end K75

set_option autoImplicit false
set_option Elab.async false
set_option linter.all false
set_option maxRecDepth 100000
set_option maxHeartbeats 4000000
namespace K75
open PySem PySem.Spec PyProof.Rows L2 SM
def topS (i : Nat) : Stmt := PySem.Challenge.pw_slopeward_k75_whole_larders_last_or_lack.main.body.getD i (.Pass ⟨0, 0, 0, 0⟩)
abbrev s_do_loads_last : Stmt := topS 1
theorem sc_do_loads_last : FnScope ["larder", "days", "loads", "room", "stock", "load", "most", "need"] ["larder", "days", "loads"] (defScope s_do_loads_last) := ⟨rfl, rfl, rfl, by decide +kernel, rfl, by decide +kernel, by decide +kernel⟩
theorem nd_do_loads_last : (["larder", "days", "loads", "room", "stock", "load", "most", "need"] : List Str).Nodup := by decide +kernel
abbrev s_is_lack : Stmt := topS 2
theorem sc_is_lack : FnScope ["larder", "days", "a", "b", "there", "room", "stock", "_", "need", "most"] ["larder", "days", "a", "b"] (defScope s_is_lack) := ⟨rfl, rfl, rfl, by decide +kernel, rfl, by decide +kernel, by decide +kernel⟩
theorem nd_is_lack : (["larder", "days", "a", "b", "there", "room", "stock", "_", "need", "most"] : List Str).Nodup := by decide +kernel
abbrev s_told_lack : Stmt := topS 3
theorem sc_told_lack : FnScope ["larder", "days", "a", "b"] ["larder", "days"] (defScope s_told_lack) := ⟨rfl, rfl, rfl, by decide +kernel, rfl, by decide +kernel, by decide +kernel⟩
theorem nd_told_lack : (["larder", "days", "a", "b"] : List Str).Nodup := by decide +kernel
abbrev s_asked_stocks : Stmt := topS 4
theorem sc_asked_stocks : FnScope ["days", "asked", "most", "need"] ["days"] (defScope s_asked_stocks) := ⟨rfl, rfl, rfl, by decide +kernel, rfl, by decide +kernel, by decide +kernel⟩
theorem nd_asked_stocks : (["days", "asked", "most", "need"] : List Str).Nodup := by decide +kernel
abbrev s_told_loads : Stmt := topS 5
theorem sc_told_loads : FnScope ["larder", "days", "asked", "stock", "found", "day", "load", "_", "need"] ["larder", "days"] (defScope s_told_loads) := ⟨rfl, rfl, rfl, by decide +kernel, rfl, by decide +kernel, by decide +kernel⟩
theorem nd_told_loads : (["larder", "days", "asked", "stock", "found", "day", "load", "_", "need"] : List Str).Nodup := by decide +kernel
abbrev s__law_cell : Stmt := topS 7
theorem sc__law_cell : FnScope ["script", "k"] ["script", "k"] (defScope s__law_cell) := ⟨rfl, rfl, rfl, by decide +kernel, rfl, by decide +kernel, by decide +kernel⟩
theorem nd__law_cell : (["script", "k"] : List Str).Nodup := by decide +kernel
abbrev s__law_draws : Stmt := topS 8
theorem sc__law_draws : FnScope ["cell", "count", "rest", "digits", "seed", "draws", "k", "mixed"] ["cell", "count"] (defScope s__law_draws) := ⟨rfl, rfl, rfl, by decide +kernel, rfl, by decide +kernel, by decide +kernel⟩
theorem nd__law_draws : (["cell", "count", "rest", "digits", "seed", "draws", "k", "mixed"] : List Str).Nodup := by decide +kernel
abbrev s__law_is_integer : Stmt := topS 9
theorem sc__law_is_integer : FnScope ["value"] ["value"] (defScope s__law_is_integer) := ⟨rfl, rfl, rfl, by decide +kernel, rfl, by decide +kernel, by decide +kernel⟩
theorem nd__law_is_integer : (["value"] : List Str).Nodup := by decide +kernel
abbrev s__law_is : Stmt := topS 10
theorem sc__law_is : FnScope ["value", "due", "at"] ["value", "due"] (defScope s__law_is) := ⟨rfl, rfl, rfl, by decide +kernel, rfl, by decide +kernel, by decide +kernel⟩
theorem nd__law_is : (["value", "due", "at"] : List Str).Nodup := by decide +kernel
abbrev s__law_is_integers : Stmt := topS 11
theorem sc__law_is_integers : FnScope ["value", "number"] ["value"] (defScope s__law_is_integers) := ⟨rfl, rfl, rfl, by decide +kernel, rfl, by decide +kernel, by decide +kernel⟩
theorem nd__law_is_integers : (["value", "number"] : List Str).Nodup := by decide +kernel
abbrev s__law_bent : Stmt := topS 12
theorem sc__law_bent : FnScope ["row", "draws", "most", "way", "at", "odd"] ["row", "draws", "most"] (defScope s__law_bent) := ⟨rfl, rfl, rfl, by decide +kernel, rfl, by decide +kernel, by decide +kernel⟩
theorem nd__law_bent : (["row", "draws", "most", "way", "at", "odd"] : List Str).Nodup := by decide +kernel
abbrev s__law_last : Stmt := topS 13
theorem sc__law_last : FnScope ["larder", "days", "loads", "stock", "at"] ["larder", "days", "loads"] (defScope s__law_last) := ⟨rfl, rfl, rfl, by decide +kernel, rfl, by decide +kernel, by decide +kernel⟩
theorem nd__law_last : (["larder", "days", "loads", "stock", "at"] : List Str).Nodup := by decide +kernel
abbrev s__law_every : Stmt := topS 14
theorem sc__law_every : FnScope ["larder", "days", "every", "most", "need", "longer", "loads", "stock", "some", "load"] ["larder", "days"] (defScope s__law_every) := ⟨rfl, rfl, rfl, by decide +kernel, rfl, by decide +kernel, by decide +kernel⟩
theorem nd__law_every : (["larder", "days", "every", "most", "need", "longer", "loads", "stock", "some", "load"] : List Str).Nodup := by decide +kernel
abbrev s__law_lack : Stmt := topS 15
theorem sc__law_lack : FnScope ["larder", "days", "a", "b", "there", "day"] ["larder", "days", "a", "b"] (defScope s__law_lack) := ⟨rfl, rfl, rfl, by decide +kernel, rfl, by decide +kernel, by decide +kernel⟩
theorem nd__law_lack : (["larder", "days", "a", "b", "there", "day"] : List Str).Nodup := by decide +kernel
abbrev s__law_lacks : Stmt := topS 16
theorem sc__law_lacks : FnScope ["larder", "days", "pairs", "a", "b"] ["larder", "days"] (defScope s__law_lacks) := ⟨rfl, rfl, rfl, by decide +kernel, rfl, by decide +kernel, by decide +kernel⟩
theorem nd__law_lacks : (["larder", "days", "pairs", "a", "b"] : List Str).Nodup := by decide +kernel
abbrev s__law_asked_pairs : Stmt := topS 17
theorem sc__law_asked_pairs : FnScope ["larder", "days", "draws", "size", "asked", "at", "a", "b"] ["larder", "days", "draws"] (defScope s__law_asked_pairs) := ⟨rfl, rfl, rfl, by decide +kernel, rfl, by decide +kernel, by decide +kernel⟩
theorem nd__law_asked_pairs : (["larder", "days", "draws", "size", "asked", "at", "a", "b"] : List Str).Nodup := by decide +kernel
abbrev s__law_great : Stmt := topS 18
theorem sc__law_great : FnScope ["script", "draws", "room", "larder", "days", "pairs", "loads", "at", "stock", "less", "rest", "most", "need", "day", "one"] ["script"] (defScope s__law_great) := ⟨rfl, rfl, rfl, by decide +kernel, rfl, by decide +kernel, by decide +kernel⟩
theorem nd__law_great : (["script", "draws", "room", "larder", "days", "pairs", "loads", "at", "stock", "less", "rest", "most", "need", "day", "one"] : List Str).Nodup := by decide +kernel
abbrev s_law : Stmt := topS 19
theorem sc_law : FnScope ["script", "turn", "draws", "room", "larder", "days", "at", "every", "pairs", "need", "base", "asked", "most", "day", "loads"] ["script"] (defScope s_law) := ⟨rfl, rfl, rfl, by decide +kernel, rfl, by decide +kernel, by decide +kernel⟩
theorem nd_law : (["script", "turn", "draws", "room", "larder", "days", "at", "every", "pairs", "need", "base", "asked", "most", "day", "loads"] : List Str).Nodup := by decide +kernel
structure Gl75 (K : PySem.W.Frag) (mg : Str → Option Value) : Prop where
  b_abs : mg "abs" = none
  b_all : mg "all" = none
  b_bool : mg "bool" = none
  b_enumerate : mg "enumerate" = none
  b_int : mg "int" = none
  b_isinstance : mg "isinstance" = none
  b_len : mg "len" = none
  b_max : mg "max" = none
  b_min : mg "min" = none
  b_range : mg "range" = none
  b_str : mg "str" = none
  b_sum : mg "sum" = none
  b_tuple : mg "tuple" = none
  b_zip : mg "zip" = none
  d_do_loads_last : GDef K mg "do_loads_last" s_do_loads_last ["larder", "days", "loads"]
  d_is_lack : GDef K mg "is_lack" s_is_lack ["larder", "days", "a", "b"]
  d_told_lack : GDef K mg "told_lack" s_told_lack ["larder", "days"]
  d_asked_stocks : GDef K mg "asked_stocks" s_asked_stocks ["days"]
  d_told_loads : GDef K mg "told_loads" s_told_loads ["larder", "days"]
  d__law_cell : GDef K mg "_law_cell" s__law_cell ["script", "k"]
  d__law_draws : GDef K mg "_law_draws" s__law_draws ["cell", "count"]
  d__law_is_integer : GDef K mg "_law_is_integer" s__law_is_integer ["value"]
  d__law_is : GDef K mg "_law_is" s__law_is ["value", "due"]
  d__law_is_integers : GDef K mg "_law_is_integers" s__law_is_integers ["value"]
  d__law_bent : GDef K mg "_law_bent" s__law_bent ["row", "draws", "most"]
  d__law_last : GDef K mg "_law_last" s__law_last ["larder", "days", "loads"]
  d__law_every : GDef K mg "_law_every" s__law_every ["larder", "days"]
  d__law_lack : GDef K mg "_law_lack" s__law_lack ["larder", "days", "a", "b"]
  d__law_lacks : GDef K mg "_law_lacks" s__law_lacks ["larder", "days"]
  d__law_asked_pairs : GDef K mg "_law_asked_pairs" s__law_asked_pairs ["larder", "days", "draws"]
  d__law_great : GDef K mg "_law_great" s__law_great ["script"]
  d_law : GDef K mg "law" s_law ["script"]
section
variable {P : Program} {w : World} {K : PySem.W.Frag} {mg : Str → Option Value} {base : Heap} {tabs : List Addr}
def R_do_loads_last (ds : List PyData) (r : PyData) : Prop := ∃ (larder1 : (Int × Int)), ∃ (days2 : (List (Int × Int))), ∃ (loads3 : (List Int)), ∃ y, ds = [(eP2 eI eI) larder1, (eT (eP2 eI eI)) days2, (eT eI) loads3] ∧ m_do_loads_last larder1 days2 loads3 = some y ∧ r = eB y
theorem j_do_loads_last (C : Gl75 K mg) (cdv : Value) (B F0 : Hp) (larder1 : (Int × Int)) (days2 : (List (Int × Int))) (loads3 : (List Int)) : J (Stat.of P w K mg base ["larder", "days", "loads", "room", "stock", "load", "most", "need"] (defScope s_do_loads_last) 0 tabs cdv B F0) [.sh ((eP2 eI eI) larder1), .sh ((eT (eP2 eI eI)) days2), .sh ((eT eI) loads3), .un, .un, .un, .un, .un] (defBody s_do_loads_last) (pT eB) (m_do_loads_last larder1 days2 loads3) := by
  unfold m_do_loads_last
  refine j_asg (e_var (i := 0) rfl (.inl rfl) rfl) (g_tup (gs_cons (g_name (i := 3) ⟨nd_do_loads_last, rfl, .inl rfl, .inr rfl⟩) (gs_cons (g_name (i := 4) ⟨nd_do_loads_last, rfl, .inl rfl, .inr rfl⟩) gs_nil (fun _ _ => rfl)) (fun _ _ => rfl)) (fun _ => rfl) (fun _ => rfl)) (fun _ => rfl) (fun _ => rfl) (fun _ => rfl) ?_
  refine j_ifR (t_cmp (c_neI (e_lenT (enc := eI) (xs := loads3) rfl C.b_len (EJ.qt (e_var (i := 2) rfl (.inl rfl) rfl)) (fun _ _ => rfl)) (e_lenT (enc := (eP2 eI eI)) (xs := days2) rfl C.b_len (EJ.qt (e_var (i := 1) rfl (.inl rfl) rfl)) (fun _ _ => rfl))) (nomark _)) (fun hc => ?_) (fun hc => ?_)
  · exact j_ret e_bl rfl
  · refine j_to (γ2 := [.sh ((eP2 eI eI) larder1), .sh ((eT (eP2 eI eI)) days2), .sh ((eT eI) loads3), .sh (eI larder1.1), .sh (eI larder1.2), .un, .un, .un]) rfl ?_
    refine j_forR (enc := (eP2 (eP2 eI eI) eI)) (xs := (List.zip days2 loads3)) (encR := eB) (γ0 := fun (s5 : (Int)) => [.un, .un, .un, .sh (eI larder1.1), .sh (eI s5), .un, .un, .un]) (t0 := (larder1.2)) (IW.of (i_zipT rfl C.b_zip (e_var (i := 1) rfl (.inl rfl) rfl) (e_var (i := 2) rfl (.inl rfl) rfl) (fun _ _ => rfl) (fun _ _ => rfl) (fun _ => rfl)) zipD_map) (⟨rfl, ⟨rfl, trivial⟩⟩) (fun s5 x6 hx6 => ⟨_, _, (g_tup (gs_cons (g_tup (gs_cons (g_name (i := 6) ⟨nd_do_loads_last, rfl, .inl rfl, .inr rfl⟩) (gs_cons (g_name (i := 7) ⟨nd_do_loads_last, rfl, .inl rfl, .inr rfl⟩) gs_nil (fun _ _ => rfl)) (fun _ _ => rfl)) (fun _ => rfl) (fun _ => rfl)) (gs_cons (g_name (i := 5) ⟨nd_do_loads_last, rfl, .inl rfl, .inr rfl⟩) gs_nil (fun _ _ => rfl)) (fun _ _ => rfl)) (fun _ => rfl) (fun _ => rfl)), ?_⟩) (fun _ => rfl) (fun s5 => ?_) (fun _ _ => rfl)
    · refine j_bind fun stock7 hstock7 => ?_
      refine j_set (i := 4) ⟨nd_do_loads_last, rfl, .inl rfl, .inr rfl⟩ (EJ.of (e_sub (e_add (e_var (i := 4) rfl (.inl rfl) rfl) (e_var (i := 5) rfl (.inl rfl) rfl)) (e_var (i := 7) rfl (.inl rfl) rfl)) (congrArg eI (Option.some.inj hstock7))) (fun _ _ => rfl) ?_
      refine j_ifR (t_w (w_or (t_not (t_chain (g := fun i j => decide (i ≤ j)) (g' := fun i j => decide (i ≤ j)) (fun _ => op_le) (fun _ => op_le) e_int (e_var (i := 5) rfl (.inl rfl) rfl) (fun _ => (e_var (i := 6) rfl (.inl rfl) rfl)) rfl)) fun _ => (w_or1 (t_not (t_chain (g := fun i j => decide (i ≤ j)) (g' := fun i j => decide (i ≤ j)) (fun _ => op_le) (fun _ => op_le) e_int (e_var (i := 4) rfl (.inl rfl) rfl) (fun _ => (e_var (i := 3) rfl (.inl rfl) rfl)) rfl))))) (fun hc => ?_) (fun hc => ?_)
      · exact j_ret e_bl rfl
      · refine j_to (γ2 := [.un, .un, .un, .sh (eI larder1.1), .sh (eI stock7), .sh (eI x6.2), .sh (eI x6.1.1), .sh (eI x6.1.2)]) rfl ?_
        exact j_nil (⟨rfl, ⟨rfl, trivial⟩⟩)
    · exact j_ret e_bl rfl
theorem ok_do_loads_last (C : Gl75 K mg) : Known P w K mg base tabs 1 "do_loads_last" 3 R_do_loads_last := known_of (k := 0) C.d_do_loads_last sc_do_loads_last fun cdv B F0 ds r _ hr => by
  obtain ⟨larder1, days2, loads3, y, rfl, hy, rfl⟩ := hr
  exact (j_do_loads_last C cdv B F0 larder1 days2 loads3).body hy
def R_is_lack (ds : List PyData) (r : PyData) : Prop := ∃ (larder1 : (Int × Int)), ∃ (days2 : (List (Int × Int))), ∃ (a3 : Int), ∃ (b4 : Int), ∃ y, ds = [(eP2 eI eI) larder1, (eT (eP2 eI eI)) days2, eI a3, eI b4] ∧ m_is_lack larder1 days2 a3 b4 = some y ∧ r = eB y
theorem j_is_lack (C : Gl75 K mg) (cdv : Value) (B F0 : Hp) (larder1 : (Int × Int)) (days2 : (List (Int × Int))) (a3 : Int) (b4 : Int) : J (Stat.of P w K mg base ["larder", "days", "a", "b", "there", "room", "stock", "_", "need", "most"] (defScope s_is_lack) 0 tabs cdv B F0) [.sh ((eP2 eI eI) larder1), .sh ((eT (eP2 eI eI)) days2), .sh (eI a3), .sh (eI b4), .un, .un, .un, .un, .un, .un] (defBody s_is_lack) (pT eB) (m_is_lack larder1 days2 a3 b4) := by
  unfold m_is_lack
  refine j_asg (e_var (i := 0) rfl (.inl rfl) rfl) (g_tup (gs_cons (g_name (i := 5) ⟨nd_is_lack, rfl, .inl rfl, .inr rfl⟩) (gs_cons (g_name (i := 6) ⟨nd_is_lack, rfl, .inl rfl, .inr rfl⟩) gs_nil (fun _ _ => rfl)) (fun _ _ => rfl)) (fun _ => rfl) (fun _ => rfl)) (fun _ => rfl) (fun _ => rfl) (fun _ => rfl) ?_
  refine j_ifR (t_not (t_chain3 (g1 := fun i j => decide (i ≤ j)) (g2 := fun i j => decide (i ≤ j)) (g3 := fun i j => decide (i < j)) (fun _ => op_le) (fun _ => op_le) (fun _ => op_lt) e_int (e_var (i := 2) rfl (.inl rfl) rfl) (e_var (i := 3) rfl (.inl rfl) rfl) (e_lenT (enc := (eP2 eI eI)) (xs := days2) rfl C.b_len (EJ.qt (e_var (i := 1) rfl (.inl rfl) rfl)) (fun _ _ => rfl)) rfl)) (fun hc => ?_) (fun hc => ?_)
  · exact j_ret e_bl rfl
  · refine j_bind fun there6 hthere6 => ?_
    refine j_set (i := 4) ⟨nd_is_lack, rfl, .inl rfl, .inr rfl⟩ (EJ.of (e_if (enc := eI) (t_cmp (c_eqI (e_var (i := 2) rfl (.inl rfl) rfl) e_int) (nomark _)) (fun _ => (e_var (i := 6) rfl (.inl rfl) rfl)) (fun _ => (e_var (i := 5) rfl (.inl rfl) rfl))) (congrArg eI (Option.some.inj hthere6))) (fun _ _ => rfl) ?_
    exact j_ret (e_cmp (c_gt (e_sum (ns := (List.map (fun (x7 : (Int × Int)) => x7.2) (cut days2 (some a3) (some (b4 + (1 : Int)))))) rfl C.b_sum (FJ.q (f_lc (own := [("_", 7), ("need", 8)]) (enc := (eP2 eI eI)) (encB := eI) (xs := (cut days2 (some a3) (some (b4 + (1 : Int))))) (f := (fun (x7 : (Int × Int)) => some (some x7.2))) (IW.x (i_tup (e_slTT (enc := (eP2 eI eI)) (e_var (i := 1) rfl (.inl rfl) rfl) (o_some (e_var (i := 2) rfl (.inl rfl) rfl)) (o_some (e_add (e_var (i := 3) rfl (.inl rfl) rfl) e_int))))) (fun x7 _ => cb0T (y := x7.2) (g_tup (gs_cons (g_name (i := 7) ⟨nd_is_lack, rfl, .inl rfl, .inr rfl⟩) (gs_cons (g_name (i := 8) ⟨nd_is_lack, rfl, .inl rfl, .inr rfl⟩) gs_nil (fun _ _ => rfl)) (fun _ _ => rfl)) (fun _ => rfl) (fun _ => rfl)) (by decide) (e_var (i := 8) rfl (.inl rfl) rfl)) (compM_map _) nd_is_lack rfl (by decide) (fun _ _ => rfl))) (fun _ _ => rfl)) (e_add (e_sum (ns := (List.map (fun (x8 : (Int × Int)) => x8.1) (cut days2 (some a3) (some (b4 + (1 : Int)))))) rfl C.b_sum (FJ.q (f_lc (own := [("most", 9), ("_", 7)]) (enc := (eP2 eI eI)) (encB := eI) (xs := (cut days2 (some a3) (some (b4 + (1 : Int))))) (f := (fun (x8 : (Int × Int)) => some (some x8.1))) (IW.x (i_tup (e_slTT (enc := (eP2 eI eI)) (e_var (i := 1) rfl (.inl rfl) rfl) (o_some (e_var (i := 2) rfl (.inl rfl) rfl)) (o_some (e_add (e_var (i := 3) rfl (.inl rfl) rfl) e_int))))) (fun x8 _ => cb0T (y := x8.1) (g_tup (gs_cons (g_name (i := 9) ⟨nd_is_lack, rfl, .inl rfl, .inr rfl⟩) (gs_cons (g_name (i := 7) ⟨nd_is_lack, rfl, .inl rfl, .inr rfl⟩) gs_nil (fun _ _ => rfl)) (fun _ _ => rfl)) (fun _ => rfl) (fun _ => rfl)) (by decide) (e_var (i := 9) rfl (.inl rfl) rfl)) (compM_map _) nd_is_lack rfl (by decide) (fun _ _ => rfl))) (fun _ _ => rfl)) (e_var (i := 4) rfl (.inl rfl) rfl))) (nomark _)) rfl
theorem ok_is_lack (C : Gl75 K mg) : Known P w K mg base tabs 1 "is_lack" 4 R_is_lack := known_of (k := 0) C.d_is_lack sc_is_lack fun cdv B F0 ds r _ hr => by
  obtain ⟨larder1, days2, a3, b4, y, rfl, hy, rfl⟩ := hr
  exact (j_is_lack C cdv B F0 larder1 days2 a3 b4).body hy
def R_told_lack (ds : List PyData) (r : PyData) : Prop := ∃ (larder1 : (Int × Int)), ∃ (days2 : (List (Int × Int))), ∃ y, ds = [(eP2 eI eI) larder1, (eT (eP2 eI eI)) days2] ∧ m_told_lack larder1 days2 = some y ∧ r = (eO (eP2 eI eI)) y
theorem j_told_lack (C : Gl75 K mg) (cdv : Value) (B F0 : Hp) (larder1 : (Int × Int)) (days2 : (List (Int × Int))) : J (Stat.of P w K mg base ["larder", "days", "a", "b"] (defScope s_told_lack) 1 tabs cdv B F0) [.sh ((eP2 eI eI) larder1), .sh ((eT (eP2 eI eI)) days2), .un, .un] (defBody s_told_lack) (pT (eO (eP2 eI eI))) (m_told_lack larder1 days2) := by
  unfold m_told_lack
  refine j_bind fun r3 hr3 => ?_
  refine j_to (γ2 := [.sh ((eP2 eI eI) larder1), .sh ((eT (eP2 eI eI)) days2), .un, .un]) rfl ?_
  refine j_forR (enc := eI) (xs := r3) (encR := (eO (eP2 eI eI))) (γ0 := fun (s4 : Unit) => [.sh ((eP2 eI eI) larder1), .sh ((eT (eP2 eI eI)) days2), .un, .un]) (t0 := ()) (i_range1O rfl C.b_range (e_lenT (enc := (eP2 eI eI)) (xs := days2) rfl C.b_len (EJ.qt (e_var (i := 1) rfl (.inl rfl) rfl)) (fun _ _ => rfl)) (fun _ _ => rfl) hr3) (⟨rfl, ⟨rfl, trivial⟩⟩) (fun s4 x5 hx5 => ⟨_, _, (g_name (i := 2) ⟨nd_told_lack, rfl, .inl rfl, .inr rfl⟩), ?_⟩) (fun _ => rfl) (fun s4 => ?_) (fun _ _ => rfl)
  · refine j_bind fun r6 hr6 => ?_
    refine j_to (γ2 := [.sh ((eP2 eI eI) larder1), .sh ((eT (eP2 eI eI)) days2), .sh (eI x5), .un]) rfl ?_
    refine j_forR (enc := eI) (xs := r6) (encR := (eO (eP2 eI eI))) (γ0 := fun (s7 : Unit) => [.sh ((eP2 eI eI) larder1), .sh ((eT (eP2 eI eI)) days2), .sh (eI x5), .un]) (t0 := ()) (i_range2O rfl C.b_range (e_var (i := 2) rfl (.inl rfl) rfl) (e_lenT (enc := (eP2 eI eI)) (xs := days2) rfl C.b_len (EJ.qt (e_var (i := 1) rfl (.inl rfl) rfl)) (fun _ _ => rfl)) (fun _ _ => rfl) (fun _ _ => rfl) hr6) (⟨rfl, ⟨rfl, ⟨rfl, trivial⟩⟩⟩) (fun s7 x8 hx8 => ⟨_, _, (g_name (i := 3) ⟨nd_told_lack, rfl, .inl rfl, .inr rfl⟩), ?_⟩) (fun _ => rfl) (fun s7 => ?_) (fun _ _ => rfl)
    · refine j_bind fun t9 ht9 => ?_
      refine j_ifR (t_val (EJ.of (d' := eB t9) (e_callK (ok_is_lack C) (Nat.le_of_ble_eq_true rfl) rfl (a_cons (e_var (i := 0) rfl (.inl rfl) rfl) (a_cons (e_var (i := 1) rfl (.inl rfl) rfl) (a_cons (e_var (i := 2) rfl (.inl rfl) rfl) (a_cons (e_var (i := 3) rfl (.inl rfl) rfl) a_nil (fun _ _ => rfl)) (fun _ _ => rfl)) (fun _ _ => rfl)) (fun _ _ => rfl)) ⟨larder1, days2, x5, x8, t9, rfl, ht9, rfl⟩ rfl (fun _ _ => rfl) (fun _ => rfl) (by decide)) rfl) (fun _ _ => rfl)) (fun hc => ?_) (fun hc => ?_)
      · exact j_ret (EJ.into (enc := (eP2 eI eI)) (EJ.of (d' := ((eP2 eI eI) (x5, x8))) (e_tup (a_cons (e_var (i := 2) rfl (.inl rfl) rfl) (a_cons (e_var (i := 3) rfl (.inl rfl) rfl) a_nil (fun _ _ => rfl)) (fun _ _ => rfl)) (len_le (n := 2) rfl (by decide))) rfl)) rfl
      · refine j_to (γ2 := [.sh ((eP2 eI eI) larder1), .sh ((eT (eP2 eI eI)) days2), .sh (eI x5), .sh (eI x8)]) rfl ?_
        exact j_nil (⟨rfl, ⟨rfl, ⟨rfl, trivial⟩⟩⟩)
    · refine j_to (γ2 := [.sh ((eP2 eI eI) larder1), .sh ((eT (eP2 eI eI)) days2), .sh (eI x5), .un]) rfl ?_
      exact j_nil (⟨rfl, ⟨rfl, trivial⟩⟩)
  · exact j_ret (EJ.of (d' := (eO (eP2 eI eI)) none) e_non rfl) rfl
theorem ok_told_lack (C : Gl75 K mg) : Known P w K mg base tabs 2 "told_lack" 2 R_told_lack := known_of (k := 1) C.d_told_lack sc_told_lack fun cdv B F0 ds r _ hr => by
  obtain ⟨larder1, days2, y, rfl, hy, rfl⟩ := hr
  exact (j_told_lack C cdv B F0 larder1 days2).body hy
def R_asked_stocks (ds : List PyData) (r : PyData) : Prop := ∃ (days1 : (List (Int × Int))), ∃ y, ds = [(eT (eP2 eI eI)) days1] ∧ m_asked_stocks days1 = some y ∧ r = (eL eI) y
theorem j_asked_stocks (C : Gl75 K mg) (cdv : Value) (B F0 : Hp) (days1 : (List (Int × Int))) : J (Stat.of P w K mg base ["days", "asked", "most", "need"] (defScope s_asked_stocks) 0 tabs cdv B F0) [.sh ((eT (eP2 eI eI)) days1), .un, .un, .un] (defBody s_asked_stocks) (pT (eL eI)) (m_asked_stocks days1) := by
  unfold m_asked_stocks
  refine j_bind fun asked2 hasked2 => ?_
  refine j_set (i := 1) ⟨nd_asked_stocks, rfl, .inl rfl, .inr rfl⟩ (EJ.of (FJ.ej (FJ.of (ds' := List.map eI [(0 : Int)]) (f_lst (a_cons e_int a_nil (fun _ _ => rfl)) (len_le (n := 1) rfl (by decide))) rfl)) (congrArg (eL eI) (Option.some.inj hasked2))) (fun _ _ => rfl) ?_
  refine j_to (γ2 := [.sh ((eT (eP2 eI eI)) days1), .sh ((eL eI) asked2), .un, .un]) rfl ?_
  refine j_for (enc := (eP2 eI eI)) (xs := (List.reverse days1)) (γ0 := fun (s3 : ((List Int))) => [.un, .sh ((eL eI) s3), .un, .un]) (t0 := (asked2)) (i_tup (e_revTT (enc := (eP2 eI eI)) (e_var (i := 0) rfl (.inl rfl) rfl))) (⟨rfl, trivial⟩) (fun s3 x4 hx4 => ⟨_, _, (g_tup (gs_cons (g_name (i := 2) ⟨nd_asked_stocks, rfl, .inl rfl, .inr rfl⟩) (gs_cons (g_name (i := 3) ⟨nd_asked_stocks, rfl, .inl rfl, .inr rfl⟩) gs_nil (fun _ _ => rfl)) (fun _ _ => rfl)) (fun _ => rfl) (fun _ => rfl)), ?_⟩) (fun s3 => ?_) (fun _ _ => rfl)
  · refine j_bind fun t6 ht6 => ?_
    refine j_bind fun asked8 hasked8 => ?_
    refine j_set (i := 1) ⟨nd_asked_stocks, rfl, .inl rfl, .inr rfl⟩ (FJ.ej (f_catO (enc := eI) (FJ.q (FJ.of (ds' := List.map eI [(max (0 : Int) ((t6 + x4.2) - x4.1))]) (f_lst (a_cons (e_max2 rfl C.b_max e_int (e_sub (e_add (e_ixT (enc := eI) (xs := s3) (EJ.ql (e_var (i := 1) rfl (.inl rfl) rfl)) e_int ht6 (fun _ _ => rfl)) (e_var (i := 3) rfl (.inl rfl) rfl)) (e_var (i := 2) rfl (.inl rfl) rfl)) (fun _ _ => rfl) (fun _ _ => rfl) (fun _ => rfl)) a_nil (fun _ _ => rfl)) (len_le (n := 1) rfl (by decide))) rfl)) (EJ.ql (e_var (i := 1) rfl (.inl rfl) rfl)) hasked8)) (fun _ _ => rfl) ?_
    refine j_to (γ2 := [.un, .sh ((eL eI) asked8), .sh (eI x4.1), .sh (eI x4.2)]) rfl ?_
    exact j_nil (⟨rfl, trivial⟩)
  · exact j_ret (e_var (i := 1) rfl (.inl rfl) rfl) rfl
theorem ok_asked_stocks (C : Gl75 K mg) : Known P w K mg base tabs 1 "asked_stocks" 1 R_asked_stocks := known_of (k := 0) C.d_asked_stocks sc_asked_stocks fun cdv B F0 ds r _ hr => by
  obtain ⟨days1, y, rfl, hy, rfl⟩ := hr
  exact (j_asked_stocks C cdv B F0 days1).body hy
def R_told_loads (ds : List PyData) (r : PyData) : Prop := ∃ (larder1 : (Int × Int)), ∃ (days2 : (List (Int × Int))), ∃ y, ds = [(eP2 eI eI) larder1, (eT (eP2 eI eI)) days2] ∧ m_told_loads larder1 days2 = some y ∧ r = (eO (eT eI)) y
theorem j_told_loads (C : Gl75 K mg) (cdv : Value) (B F0 : Hp) (larder1 : (Int × Int)) (days2 : (List (Int × Int))) : J (Stat.of P w K mg base ["larder", "days", "asked", "stock", "found", "day", "load", "_", "need"] (defScope s_told_loads) 2 tabs cdv B F0) [.sh ((eP2 eI eI) larder1), .sh ((eT (eP2 eI eI)) days2), .un, .un, .un, .un, .un, .un, .un] (defBody s_told_loads) (pT (eO (eT eI))) (m_told_loads larder1 days2) := by
  unfold m_told_loads
  refine j_bind fun t3 ht3 => ?_
  refine j_ifR (t_cmp (c_notN (EJ.of (d' := (eO (eP2 eI eI)) t3) (e_callK (ok_told_lack C) (Nat.le_of_ble_eq_true rfl) rfl (a_cons (e_var (i := 0) rfl (.inl rfl) rfl) (a_cons (e_var (i := 1) rfl (.inl rfl) rfl) a_nil (fun _ _ => rfl)) (fun _ _ => rfl)) ⟨larder1, days2, t3, rfl, ht3, rfl⟩ rfl (fun _ _ => rfl) (fun _ => rfl) (by decide)) rfl)) (nomark _)) (fun hc => ?_) (fun hc => ?_)
  · exact j_ret (EJ.of (d' := (eO (eT eI)) none) e_non rfl) rfl
  · refine j_bind fun asked5 hasked5 => ?_
    refine j_set (i := 2) ⟨nd_told_loads, rfl, .inl rfl, .inr rfl⟩ (EJ.of (d' := (eL eI) asked5) (e_callK (ok_asked_stocks C) (Nat.le_of_ble_eq_true rfl) rfl (a_cons (e_var (i := 1) rfl (.inl rfl) rfl) a_nil (fun _ _ => rfl)) ⟨days2, asked5, rfl, hasked5, rfl⟩ rfl (fun _ _ => rfl) (fun _ => rfl) (by decide)) rfl) (fun _ _ => rfl) ?_
    refine j_bind fun stock6 hstock6 => ?_
    refine j_set (i := 3) ⟨nd_told_loads, rfl, .inl rfl, .inr rfl⟩ (EJ.of (e_ixC (i := 1) (e_var (i := 0) rfl (.inl rfl) rfl) rfl) (congrArg eI (Option.some.inj hstock6))) (fun _ _ => rfl) ?_
    refine j_bind fun found7 hfound7 => ?_
    refine j_setF (i := 4) ⟨nd_told_loads, rfl, .inl rfl, .inr rfl⟩ (FJ.of (FJ.of (ds' := List.map eI ([] : List Int)) (f_lst a_nil (len_le (n := 0) rfl (by decide))) rfl) (congrArg (List.map eI) (Option.some.inj hfound7))) (fun _ _ => rfl) ?_
    refine j_to (γ2 := [.sh ((eP2 eI eI) larder1), .sh ((eT (eP2 eI eI)) days2), .sh ((eL eI) asked5), .sh (eI stock6), .ow (.list (List.map eI found7)), .un, .un, .un, .un]) rfl ?_
    refine j_for (enc := (eP2 eI (eP2 eI eI))) (xs := (enumI days2)) (γ0 := fun (s8 : (Int × (List Int))) => [.un, .un, .sh ((eL eI) asked5), .sh (eI s8.1), .ow (.list (List.map eI s8.2)), .un, .un, .un, .un]) (t0 := (stock6, found7)) (IW.of (i_enumT rfl C.b_enumerate (e_var (i := 1) rfl (.inl rfl) rfl) (fun _ _ => rfl)) enumD_map) (⟨rfl, ⟨rfl, ⟨rfl, trivial⟩⟩⟩) (fun s8 x9 hx9 => ⟨_, _, (g_tup (gs_cons (g_name (i := 5) ⟨nd_told_loads, rfl, .inl rfl, .inr rfl⟩) (gs_cons (g_tup (gs_cons (g_name (i := 7) ⟨nd_told_loads, rfl, .inl rfl, .inr rfl⟩) (gs_cons (g_name (i := 8) ⟨nd_told_loads, rfl, .inl rfl, .inr rfl⟩) gs_nil (fun _ _ => rfl)) (fun _ _ => rfl)) (fun _ => rfl) (fun _ => rfl)) gs_nil (fun _ _ => rfl)) (fun _ _ => rfl)) (fun _ => rfl) (fun _ => rfl)), ?_⟩) (fun s8 => ?_) (fun _ _ => rfl)
    · refine j_bind fun t10 ht10 => ?_
      refine j_bind fun load11 hload11 => ?_
      refine j_set (i := 6) ⟨nd_told_loads, rfl, .inl rfl, .inr rfl⟩ (EJ.of (e_max2 rfl C.b_max e_int (e_sub (e_add (e_var (i := 8) rfl (.inl rfl) rfl) (e_ixT (enc := eI) (xs := asked5) (EJ.ql (e_var (i := 2) rfl (.inl rfl) rfl)) (e_add (e_var (i := 5) rfl (.inl rfl) rfl) e_int) ht10 (fun _ _ => rfl))) (e_var (i := 3) rfl (.inl rfl) rfl)) (fun _ _ => rfl) (fun _ _ => rfl) (fun _ => rfl)) (congrArg eI (Option.some.inj hload11))) (fun _ _ => rfl) ?_
      refine j_bind fun stock12 hstock12 => ?_
      refine j_set (i := 3) ⟨nd_told_loads, rfl, .inl rfl, .inr rfl⟩ (EJ.of (e_sub (e_add (e_var (i := 3) rfl (.inl rfl) rfl) (e_var (i := 6) rfl (.inl rfl) rfl)) (e_var (i := 8) rfl (.inl rfl) rfl)) (congrArg eI (Option.some.inj hstock12))) (fun _ _ => rfl) ?_
      refine j_bind fun found13 hfound13 => ?_
      refine j_appO (j := 4) (enc := eI) (xs := s8.2) (zs := found13) rfl (.inl rfl) rfl (e_var (i := 6) rfl (.inl rfl) rfl) hfound13 (fun _ _ => rfl) (by decide) (by decide) (fun _ => rfl) rfl ?_
      refine j_to (γ2 := [.un, .un, .sh ((eL eI) asked5), .sh (eI stock12), .ow (.list (List.map eI found13)), .sh (eI x9.1), .sh (eI load11), .sh (eI x9.2.1), .sh (eI x9.2.2)]) rfl ?_
      exact j_nil (⟨rfl, ⟨rfl, ⟨rfl, trivial⟩⟩⟩)
    · exact j_ret (EJ.into (enc := (eT eI)) (e_tuple (k := .l) rfl C.b_tuple (q_own (i := 4) (ds := List.map eI s8.2) rfl (.inl rfl) rfl) (fun _ _ => rfl))) rfl
theorem ok_told_loads (C : Gl75 K mg) : Known P w K mg base tabs 3 "told_loads" 2 R_told_loads := known_of (k := 2) C.d_told_loads sc_told_loads fun cdv B F0 ds r _ hr => by
  obtain ⟨larder1, days2, y, rfl, hy, rfl⟩ := hr
  exact (j_told_loads C cdv B F0 larder1 days2).body hy
def R__law_cell (ds : List PyData) (r : PyData) : Prop := ∃ (script1 : (List Int)), ∃ (k2 : Int), ∃ y, ds = [(eL eI) script1, eI k2] ∧ m__law_cell script1 k2 = some y ∧ r = eI y
theorem j__law_cell (C : Gl75 K mg) (cdv : Value) (B F0 : Hp) (script1 : (List Int)) (k2 : Int) : J (Stat.of P w K mg base ["script", "k"] (defScope s__law_cell) 0 tabs cdv B F0) [.sh ((eL eI) script1), .sh (eI k2)] (defBody s__law_cell) (pT eI) (m__law_cell script1 k2) := by
  unfold m__law_cell
  refine j_ifR (t_cmp (c_lt (e_var (i := 1) rfl (.inl rfl) rfl) (e_lenT (enc := eI) (xs := script1) rfl C.b_len (EJ.ql (e_var (i := 0) rfl (.inl rfl) rfl)) (fun _ _ => rfl))) (nomark _)) (fun hc => ?_) (fun hc => ?_)
  · refine j_bind fun t3 ht3 => ?_
    exact j_ret (e_ixT (enc := eI) (xs := script1) (EJ.ql (e_var (i := 0) rfl (.inl rfl) rfl)) (e_var (i := 1) rfl (.inl rfl) rfl) ht3 (fun _ _ => rfl)) rfl
  · exact j_ret (e_add (e_mul e_int (e_var (i := 1) rfl (.inl rfl) rfl) (.inl (by decide))) e_int) rfl
theorem ok__law_cell (C : Gl75 K mg) : Known P w K mg base tabs 1 "_law_cell" 2 R__law_cell := known_of (k := 0) C.d__law_cell sc__law_cell fun cdv B F0 ds r _ hr => by
  obtain ⟨script1, k2, y, rfl, hy, rfl⟩ := hr
  exact (j__law_cell C cdv B F0 script1 k2).body hy
def R__law_draws (ds : List PyData) (r : PyData) : Prop := ∃ (cell1 : Int), ∃ (count2 : Int), ∃ y, ds = [eI cell1, eI count2] ∧ m__law_draws cell1 count2 = some y ∧ r = (eL eI) y
theorem j__law_draws (C : Gl75 K mg) (cdv : Value) (B F0 : Hp) (cell1 : Int) (count2 : Int) : J (Stat.of P w K mg base ["cell", "count", "rest", "digits", "seed", "draws", "k", "mixed"] (defScope s__law_draws) 0 tabs cdv B F0) [.sh (eI cell1), .sh (eI count2), .un, .un, .un, .un, .un, .un] (defBody s__law_draws) (pT (eL eI)) (m__law_draws cell1 count2) := by
  unfold m__law_draws
  refine j_bind fun rest3 hrest3 => ?_
  refine j_set (i := 2) ⟨nd__law_draws, rfl, .inl rfl, .inr rfl⟩ (EJ.of (e_abs rfl C.b_abs (e_int1 rfl C.b_int (e_var (i := 0) rfl (.inl rfl) rfl) (fun _ _ => rfl)) (fun _ _ => rfl)) (congrArg eI (Option.some.inj hrest3))) (fun _ _ => rfl) ?_
  refine j_bind fun digits4 hdigits4 => ?_
  refine j_set (i := 3) ⟨nd__law_draws, rfl, .inl rfl, .inr rfl⟩ (EJ.of (e_cmp (c_ge (e_var (i := 2) rfl (.inl rfl) rfl) (EJ.of (d' := .int 1000000000000000000) (e_pow e_int e_int ⟨by decide, by decide, by decide⟩) rfl)) (nomark _)) (congrArg eB (Option.some.inj hdigits4))) (fun _ _ => rfl) ?_
  refine j_bind fun seed5 hseed5 => ?_
  refine j_set (i := 4) ⟨nd__law_draws, rfl, .inl rfl, .inr rfl⟩ (EJ.of (e_var (i := 2) rfl (.inl rfl) rfl) (congrArg eI (Option.some.inj hseed5))) (fun _ _ => rfl) ?_
  refine j_bind fun draws6 hdraws6 => ?_
  refine j_setF (i := 5) ⟨nd__law_draws, rfl, .inl rfl, .inr rfl⟩ (FJ.of (FJ.of (ds' := List.map eI ([] : List Int)) (f_lst a_nil (len_le (n := 0) rfl (by decide))) rfl) (congrArg (List.map eI) (Option.some.inj hdraws6))) (fun _ _ => rfl) ?_
  refine j_bind fun r7 hr7 => ?_
  refine j_to (γ2 := [.sh (eI cell1), .sh (eI count2), .sh (eI rest3), .sh (eB digits4), .sh (eI seed5), .ow (.list (List.map eI draws6)), .un, .un]) rfl ?_
  refine j_for (enc := eI) (xs := r7) (γ0 := fun (s8 : (Int × (List Int))) => [.un, .un, .sh (eI s8.1), .sh (eB digits4), .sh (eI seed5), .ow (.list (List.map eI s8.2)), .un, .un]) (t0 := (rest3, draws6)) (i_range1O rfl C.b_range (e_var (i := 1) rfl (.inl rfl) rfl) (fun _ _ => rfl) hr7) (⟨rfl, ⟨rfl, ⟨rfl, ⟨rfl, trivial⟩⟩⟩⟩) (fun s8 x9 hx9 => ⟨_, _, (g_name (i := 6) ⟨nd__law_draws, rfl, .inl rfl, .inr rfl⟩), ?_⟩) (fun s8 => ?_) (fun _ _ => rfl)
  · refine j_ifJ (γj := fun (j16 : (Int × (List Int))) => [.un, .un, .sh (eI j16.1), .sh (eB digits4), .sh (eI seed5), .ow (.list (List.map eI j16.2)), .un, .un]) (t_w (w_and (t_val (e_var (i := 3) rfl (.inl rfl) rfl) (fun _ _ => rfl)) fun _ => (w_and1 (t_cmp (c_gt (e_var (i := 2) rfl (.inl rfl) rfl) e_int) (nomark _))))) (fun hc => ?_) (fun hc => ?_) (fun j16 => ?_)
    · refine j_bind fun draws17 hdraws17 => ?_
      refine j_appO (j := 5) (enc := eI) (xs := s8.2) (zs := draws17) rfl (.inl rfl) rfl (e_mod (e_int1 rfl C.b_int (e_var (i := 2) rfl (.inl rfl) rfl) (fun _ _ => rfl)) e_int (by decide)) hdraws17 (fun _ _ => rfl) (by decide) (by decide) (fun _ => rfl) rfl ?_
      refine j_bind fun rest18 hrest18 => ?_
      refine j_set (i := 2) ⟨nd__law_draws, rfl, .inl rfl, .inr rfl⟩ (EJ.of (e_fdiv (e_var (i := 2) rfl (.inl rfl) rfl) e_int ⟨by decide, by decide⟩) (congrArg eI (Option.some.inj hrest18))) (fun _ _ => rfl) ?_
      refine j_to (γ2 := [.un, .un, .sh (eI rest18), .sh (eB digits4), .sh (eI seed5), .ow (.list (List.map eI draws17)), .sh (eI x9), .un]) rfl ?_
      exact j_nil (⟨rfl, ⟨rfl, ⟨rfl, ⟨rfl, trivial⟩⟩⟩⟩)
    · refine j_bind fun mixed19 hmixed19 => ?_
      refine j_set (i := 7) ⟨nd__law_draws, rfl, .inl rfl, .inr rfl⟩ (EJ.of (e_mod (e_int1 rfl C.b_int (e_add (e_add (e_mul (e_var (i := 4) rfl (.inl rfl) rfl) e_int (.inr (by decide))) (e_mul (e_add (e_var (i := 6) rfl (.inl rfl) rfl) e_int) e_int (.inr (by decide)))) e_int) (fun _ _ => rfl)) e_int (by decide)) (congrArg eI (Option.some.inj hmixed19))) (fun _ _ => rfl) ?_
      refine j_bind fun t20 ht20 => ?_
      refine j_bind fun mixed21 hmixed21 => ?_
      refine j_set (i := 7) ⟨nd__law_draws, rfl, .inl rfl, .inr rfl⟩ (EJ.of (e_mod (e_int1 rfl C.b_int (e_add (e_mulO (e_var (i := 7) rfl (.inl rfl) rfl) (e_var (i := 7) rfl (.inl rfl) rfl) ht20) (e_mul e_int (e_add (e_var (i := 6) rfl (.inl rfl) rfl) e_int) (.inl (by decide)))) (fun _ _ => rfl)) e_int (by decide)) (congrArg eI (Option.some.inj hmixed21))) (fun _ _ => rfl) ?_
      refine j_bind fun draws22 hdraws22 => ?_
      refine j_appO (j := 5) (enc := eI) (xs := s8.2) (zs := draws22) rfl (.inl rfl) rfl (e_mod (e_int1 rfl C.b_int (e_fdiv (e_var (i := 7) rfl (.inl rfl) rfl) e_int ⟨by decide, by decide⟩) (fun _ _ => rfl)) e_int (by decide)) hdraws22 (fun _ _ => rfl) (by decide) (by decide) (fun _ => rfl) rfl ?_
      refine j_to (γ2 := [.un, .un, .sh (eI s8.1), .sh (eB digits4), .sh (eI seed5), .ow (.list (List.map eI draws22)), .sh (eI x9), .sh (eI mixed21)]) rfl ?_
      exact j_nil (⟨rfl, ⟨rfl, ⟨rfl, ⟨rfl, trivial⟩⟩⟩⟩)
    · refine j_to (γ2 := [.un, .un, .sh (eI j16.1), .sh (eB digits4), .sh (eI seed5), .ow (.list (List.map eI j16.2)), .un, .un]) rfl ?_
      exact j_nil (⟨rfl, ⟨rfl, ⟨rfl, ⟨rfl, trivial⟩⟩⟩⟩)
  · refine j_share (j := 5) rfl ?_
    exact j_ret (e_var (i := 5) rfl (.inl rfl) rfl) rfl
theorem ok__law_draws (C : Gl75 K mg) : Known P w K mg base tabs 1 "_law_draws" 2 R__law_draws := known_of (k := 0) C.d__law_draws sc__law_draws fun cdv B F0 ds r _ hr => by
  obtain ⟨cell1, count2, y, rfl, hy, rfl⟩ := hr
  exact (j__law_draws C cdv B F0 cell1 count2).body hy
def R__law_is_integer (ds : List PyData) (r : PyData) : Prop := ∃ (value1 : PyData), ∃ y, ds = [eD value1] ∧ m__law_is_integer value1 = some y ∧ r = eB y
theorem j__law_is_integer (C : Gl75 K mg) (cdv : Value) (B F0 : Hp) (value1 : PyData) : J (Stat.of P w K mg base ["value"] (defScope s__law_is_integer) 0 tabs cdv B F0) [.sh (eD value1)] (defBody s__law_is_integer) (pT eB) (m__law_is_integer value1) := by
  unfold m__law_is_integer
  exact j_ret (e_and (e_isi rfl C.b_isinstance rfl C.b_int rfl (e_var (i := 0) rfl (.inl rfl) rfl) (fun _ _ => rfl) (kit_int _) (fun _ => rfl) (by decide) rfl) fun _ => (e_one (e_not (e_isi rfl C.b_isinstance rfl C.b_bool rfl (e_var (i := 0) rfl (.inl rfl) rfl) (fun _ _ => rfl) (kit_bool _) (fun _ => rfl) (by decide) rfl)))) rfl
theorem ok__law_is_integer (C : Gl75 K mg) : Known P w K mg base tabs 1 "_law_is_integer" 1 R__law_is_integer := known_of (k := 0) C.d__law_is_integer sc__law_is_integer fun cdv B F0 ds r _ hr => by
  obtain ⟨value1, y, rfl, hy, rfl⟩ := hr
  exact (j__law_is_integer C cdv B F0 value1).body hy
def R__law_is (ds : List PyData) (r : PyData) : Prop := ∃ v d y, ds = [v, d] ∧ m__law_is v d = some y ∧ r = eB y
def RLk (k : Nat) (ds : List PyData) (r : PyData) : Prop := ∃ v d, ds = [v, d] ∧ okD k d = true ∧ r = .bool (lawIs v d)
theorem j__law_is (C : Gl75 K mg) (G0 : Known P w K mg base tabs 1 "_law_is_integer" 1 R__law_is_integer) (cdv : Value) (B F0 : Hp) (lv : Nat) (hlv : 1 ≤ lv) (v d : PyData)
    (hG : ∀ ds, d = .tuple ds ∨ d = .list ds → ds.length ≤ 8388608 ∧ ∃ Rk, Known P w K mg base tabs lv "_law_is" 2 Rk ∧ ∀ e ∈ ds, ∀ v, Rk [v, e] (.bool (lawIs v e))) (hd : ∀ x, d ≠ .dict x) :
    J (Stat.of P w K mg base ["value", "due", "at"] (defScope s__law_is) lv tabs cdv B F0) [.sh v, .sh d, .un] (defBody s__law_is) (pT eB) (some (lawIs v d)) := by
  cases d with
  | none =>
    refine j_ifT (TJ.of (t_cmp (c_isN (e_var (i := 1) rfl (.inr (.inl rfl)) rfl)) (nomark _)) rfl) ?_
    exact j_ret (e_cmp (c_isN (e_var (i := 0) rfl (.inr (.inl rfl)) rfl)) (nomark _)) (by rw [lawIs]; rfl)
  | bool b =>
    refine j_ifF (TJ.of (t_cmp (c_isN (e_var (i := 1) rfl (.inr (.inl rfl)) rfl)) (nomark _)) rfl) ?_
    refine j_ifT (TJ.of (t_val (e_isi rfl C.b_isinstance rfl C.b_bool rfl (e_var (i := 1) rfl (.inr (.inl rfl)) rfl) (fun _ _ => rfl) (kit_bool _) (fun _ => rfl) (by decide) rfl) (fun _ _ => rfl)) rfl) ?_
    by_cases hv : isInst "bool" v = true
    · obtain ⟨c, rfl⟩ := is_bool hv
      exact j_ret (d := .bool (true && decide (c = b))) (e_and (k := true) (EJ.of (e_isi rfl C.b_isinstance rfl C.b_bool rfl (e_var (i := 0) rfl (.inr (.inl rfl)) rfl) (fun _ _ => rfl) (kit_bool _) (fun _ => rfl) (by decide) rfl) rfl) fun _ => e_one (e_cmp (c_eqB (e_var (i := 0) rfl (.inr (.inl rfl)) rfl) (e_var (i := 1) rfl (.inr (.inl rfl)) rfl)) (nomark _))) (by rw [lawIs]; rfl)
    · have hv' : isInst "bool" v = false := Bool.eq_false_iff.mpr hv
      exact j_ret (d := .bool (false && false)) (e_and (k := false) (EJ.of (e_isi rfl C.b_isinstance rfl C.b_bool rfl (e_var (i := 0) rfl (.inr (.inl rfl)) rfl) (fun _ _ => rfl) (kit_bool _) (fun _ => rfl) (by decide) rfl) (by rw [hv'])) fun z => by cases z) (by rw [no_bool hv']; rfl)
  | int b =>
    refine j_ifF (TJ.of (t_cmp (c_isN (e_var (i := 1) rfl (.inr (.inl rfl)) rfl)) (nomark _)) rfl) ?_
    refine j_ifF (TJ.of (t_val (e_isi rfl C.b_isinstance rfl C.b_bool rfl (e_var (i := 1) rfl (.inr (.inl rfl)) rfl) (fun _ _ => rfl) (kit_bool _) (fun _ => rfl) (by decide) rfl) (fun _ _ => rfl)) rfl) ?_
    refine j_ifT (TJ.of (t_val (e_isi rfl C.b_isinstance rfl C.b_int rfl (e_var (i := 1) rfl (.inr (.inl rfl)) rfl) (fun _ _ => rfl) (kit_int _) (fun _ => rfl) (by decide) rfl) (fun _ _ => rfl)) rfl) ?_
    by_cases hv : (isInst "int" v && !isInst "bool" v) = true
    · obtain ⟨c, rfl⟩ := is_int hv
      exact j_ret (d := .bool (true && decide (c = b))) (e_and (k := true) (e_callK G0 hlv rfl (a_cons (e_var (i := 0) rfl (.inr (.inl rfl)) rfl) a_nil (fun _ _ => rfl)) ⟨_, _, rfl, rfl, rfl⟩ rfl (fun _ _ => rfl) (fun _ => rfl) (by decide)) fun _ => e_one (e_cmp (c_eqI (e_var (i := 0) rfl (.inr (.inl rfl)) rfl) (e_var (i := 1) rfl (.inr (.inl rfl)) rfl)) (nomark _))) (by rw [lawIs]; rfl)
    · have hv' : (isInst "int" v && !isInst "bool" v) = false := Bool.eq_false_iff.mpr hv
      exact j_ret (d := .bool (false && false)) (e_and (k := false) (e_callK G0 hlv rfl (a_cons (e_var (i := 0) rfl (.inr (.inl rfl)) rfl) a_nil (fun _ _ => rfl)) ⟨v, _, rfl, rfl, by rw [show (isInst "int" (eD v) && !isInst "bool" (eD v)) = false from hv']⟩ rfl (fun _ _ => rfl) (fun _ => rfl) (by decide)) fun z => by cases z) (by rw [no_int hv']; rfl)
  | str b =>
    refine j_ifF (TJ.of (t_cmp (c_isN (e_var (i := 1) rfl (.inr (.inl rfl)) rfl)) (nomark _)) rfl) ?_
    refine j_ifF (TJ.of (t_val (e_isi rfl C.b_isinstance rfl C.b_bool rfl (e_var (i := 1) rfl (.inr (.inl rfl)) rfl) (fun _ _ => rfl) (kit_bool _) (fun _ => rfl) (by decide) rfl) (fun _ _ => rfl)) rfl) ?_
    refine j_ifF (TJ.of (t_val (e_isi rfl C.b_isinstance rfl C.b_int rfl (e_var (i := 1) rfl (.inr (.inl rfl)) rfl) (fun _ _ => rfl) (kit_int _) (fun _ => rfl) (by decide) rfl) (fun _ _ => rfl)) rfl) ?_
    refine j_ifT (TJ.of (t_val (e_isi rfl C.b_isinstance rfl C.b_str rfl (e_var (i := 1) rfl (.inr (.inl rfl)) rfl) (fun _ _ => rfl) (kit_str _) (fun _ => rfl) (by decide) rfl) (fun _ _ => rfl)) rfl) ?_
    by_cases hv : isInst "str" v = true
    · obtain ⟨c, rfl⟩ := is_str hv
      exact j_ret (d := .bool (true && decide (c = b))) (e_and (k := true) (EJ.of (e_isi rfl C.b_isinstance rfl C.b_str rfl (e_var (i := 0) rfl (.inr (.inl rfl)) rfl) (fun _ _ => rfl) (kit_str _) (fun _ => rfl) (by decide) rfl) rfl) fun _ => e_one (e_cmp (c_eqStr (e_var (i := 0) rfl (.inr (.inl rfl)) rfl) (e_var (i := 1) rfl (.inr (.inl rfl)) rfl)) (nomark _))) (by rw [lawIs]; rfl)
    · have hv' : isInst "str" v = false := Bool.eq_false_iff.mpr hv
      exact j_ret (d := .bool (false && false)) (e_and (k := false) (EJ.of (e_isi rfl C.b_isinstance rfl C.b_str rfl (e_var (i := 0) rfl (.inr (.inl rfl)) rfl) (fun _ _ => rfl) (kit_str _) (fun _ => rfl) (by decide) rfl) (by rw [hv'])) fun z => by cases z) (by rw [no_str hv']; rfl)
  | tuple ds =>
    refine j_ifF (TJ.of (t_cmp (c_isN (e_var (i := 1) rfl (.inr (.inl rfl)) rfl)) (nomark _)) rfl) ?_
    refine j_ifF (TJ.of (t_val (e_isi rfl C.b_isinstance rfl C.b_bool rfl (e_var (i := 1) rfl (.inr (.inl rfl)) rfl) (fun _ _ => rfl) (kit_bool _) (fun _ => rfl) (by decide) rfl) (fun _ _ => rfl)) rfl) ?_
    refine j_ifF (TJ.of (t_val (e_isi rfl C.b_isinstance rfl C.b_int rfl (e_var (i := 1) rfl (.inr (.inl rfl)) rfl) (fun _ _ => rfl) (kit_int _) (fun _ => rfl) (by decide) rfl) (fun _ _ => rfl)) rfl) ?_
    refine j_ifF (TJ.of (t_val (e_isi rfl C.b_isinstance rfl C.b_str rfl (e_var (i := 1) rfl (.inr (.inl rfl)) rfl) (fun _ _ => rfl) (kit_str _) (fun _ => rfl) (by decide) rfl) (fun _ _ => rfl)) rfl) ?_
    obtain ⟨hl, Rk, GK, hR⟩ := hG ds (.inl rfl)
    by_cases hv : isInst "tuple" v = true
    · obtain ⟨vs, rfl⟩ := is_tup hv
      by_cases hn : vs.length = ds.length
      · refine j_ifF (TJ.of (t_w (w_or (t_not (t_val (e_isi rfl C.b_isinstance rfl C.b_tuple rfl (e_var (i := 0) rfl (.inr (.inl rfl)) rfl) (fun _ _ => rfl) (kit_tuple _) (fun _ => rfl) (by decide) rfl) (fun _ _ => rfl))) fun _ => w_or1 (t_cmp (c_neI (e_len rfl C.b_len (e_var (i := 0) rfl (.inr (.inl rfl)) rfl).qt (fun _ _ => rfl)) (e_len rfl C.b_len (e_var (i := 1) rfl (.inr (.inl rfl)) rfl).qt (fun _ _ => rfl))) (nomark _)))) ?_) ?_
        · rw [hn, decide_eq_true rfl]; rfl
        · refine j_ret (e_all (bs := (vs.zip ds).map fun p => lawIs p.1 p.2) rfl C.b_all (FJ.q (f_lc (own := [("at", 2)]) (enc := eI) (encB := eB) (xs := rng 0 (ds.length : Int)) (f := fun i => (atI (vs.zip ds) i).bind fun p => some (some (lawIs p.1 p.2)))
            (IW.x (i_range1 rfl C.b_range (e_len rfl C.b_len (e_var (i := 1) rfl (.inr (.inl rfl)) rfl).qt (fun _ _ => rfl)) (fun _ _ => rfl) ⟨by decide, by decide, by omega, by omega⟩))
            (fun i hi => cb_bind fun p hp => cb0T (g_name (i := 2) ⟨nd__law_is, rfl, .inl rfl, .inr rfl⟩) (by decide)
              (e_callK GK (Nat.le_refl _) rfl (a_cons (e_ix (e_var (i := 0) rfl (.inr (.inl rfl)) rfl).qt (e_var (i := 2) rfl (.inl rfl) rfl) (atI_zip (mem_rng.mp hi).1 hp).1 (fun _ _ => rfl)) (a_cons (e_ix (e_var (i := 1) rfl (.inr (.inl rfl)) rfl).qt (e_var (i := 2) rfl (.inl rfl) rfl) (atI_zip (mem_rng.mp hi).1 hp).2 (fun _ _ => rfl)) a_nil (fun _ _ => rfl)) (fun _ _ => rfl))
                (hR _ (mem_at (atI_zip (mem_rng.mp hi).1 hp).2) _) rfl (fun _ _ => rfl) (fun _ => rfl) (by decide)))
            (compM_at (by rw [List.length_zip, hn, Nat.min_self])) nd__law_is rfl (by decide) (fun _ _ => rfl))) (fun _ _ => rfl)) ?_
          rw [lawAll_zip hn]
          show _ = PyData.bool _
          rw [lawIs]
      · refine j_ifT (TJ.of (t_w (w_or (t_not (t_val (e_isi rfl C.b_isinstance rfl C.b_tuple rfl (e_var (i := 0) rfl (.inr (.inl rfl)) rfl) (fun _ _ => rfl) (kit_tuple _) (fun _ => rfl) (by decide) rfl) (fun _ _ => rfl))) fun _ => w_or1 (t_cmp (c_neI (e_len rfl C.b_len (e_var (i := 0) rfl (.inr (.inl rfl)) rfl).qt (fun _ _ => rfl)) (e_len rfl C.b_len (e_var (i := 1) rfl (.inr (.inl rfl)) rfl).qt (fun _ _ => rfl))) (nomark _)))) ?_) ?_
        · rw [decide_eq_false (by omega)]; simp
        · exact j_ret e_bl (by rw [lawIs, lawAll_len hn]; rfl)
    · have hv' : isInst "tuple" v = false := Bool.eq_false_iff.mpr hv
      refine j_ifT (TJ.of (t_w (w_or (k := true) (l := true) (TJ.of (t_not (t_val (e_isi rfl C.b_isinstance rfl C.b_tuple rfl (e_var (i := 0) rfl (.inr (.inl rfl)) rfl) (fun _ _ => rfl) (kit_tuple _) (fun _ => rfl) (by decide) rfl) (fun _ _ => rfl))) (by rw [hv']; rfl)) fun z => by cases z)) rfl) ?_
      exact j_ret e_bl (by rw [(no_tup hv').1]; rfl)
  | list ds =>
    refine j_ifF (TJ.of (t_cmp (c_isN (e_var (i := 1) rfl (.inr (.inl rfl)) rfl)) (nomark _)) rfl) ?_
    refine j_ifF (TJ.of (t_val (e_isi rfl C.b_isinstance rfl C.b_bool rfl (e_var (i := 1) rfl (.inr (.inl rfl)) rfl) (fun _ _ => rfl) (kit_bool _) (fun _ => rfl) (by decide) rfl) (fun _ _ => rfl)) rfl) ?_
    refine j_ifF (TJ.of (t_val (e_isi rfl C.b_isinstance rfl C.b_int rfl (e_var (i := 1) rfl (.inr (.inl rfl)) rfl) (fun _ _ => rfl) (kit_int _) (fun _ => rfl) (by decide) rfl) (fun _ _ => rfl)) rfl) ?_
    refine j_ifF (TJ.of (t_val (e_isi rfl C.b_isinstance rfl C.b_str rfl (e_var (i := 1) rfl (.inr (.inl rfl)) rfl) (fun _ _ => rfl) (kit_str _) (fun _ => rfl) (by decide) rfl) (fun _ _ => rfl)) rfl) ?_
    obtain ⟨hl, Rk, GK, hR⟩ := hG ds (.inr rfl)
    by_cases hv : isInst "tuple" v = true
    · obtain ⟨vs, rfl⟩ := is_tup hv
      by_cases hn : vs.length = ds.length
      · refine j_ifF (TJ.of (t_w (w_or (t_not (t_val (e_isi rfl C.b_isinstance rfl C.b_tuple rfl (e_var (i := 0) rfl (.inr (.inl rfl)) rfl) (fun _ _ => rfl) (kit_tuple _) (fun _ => rfl) (by decide) rfl) (fun _ _ => rfl))) fun _ => w_or1 (t_cmp (c_neI (e_len rfl C.b_len (e_var (i := 0) rfl (.inr (.inl rfl)) rfl).qt (fun _ _ => rfl)) (e_len rfl C.b_len (e_var (i := 1) rfl (.inr (.inl rfl)) rfl).ql (fun _ _ => rfl))) (nomark _)))) ?_) ?_
        · rw [hn, decide_eq_true rfl]; rfl
        · refine j_ret (e_all (bs := (vs.zip ds).map fun p => lawIs p.1 p.2) rfl C.b_all (FJ.q (f_lc (own := [("at", 2)]) (enc := eI) (encB := eB) (xs := rng 0 (ds.length : Int)) (f := fun i => (atI (vs.zip ds) i).bind fun p => some (some (lawIs p.1 p.2)))
            (IW.x (i_range1 rfl C.b_range (e_len rfl C.b_len (e_var (i := 1) rfl (.inr (.inl rfl)) rfl).ql (fun _ _ => rfl)) (fun _ _ => rfl) ⟨by decide, by decide, by omega, by omega⟩))
            (fun i hi => cb_bind fun p hp => cb0T (g_name (i := 2) ⟨nd__law_is, rfl, .inl rfl, .inr rfl⟩) (by decide)
              (e_callK GK (Nat.le_refl _) rfl (a_cons (e_ix (e_var (i := 0) rfl (.inr (.inl rfl)) rfl).qt (e_var (i := 2) rfl (.inl rfl) rfl) (atI_zip (mem_rng.mp hi).1 hp).1 (fun _ _ => rfl)) (a_cons (e_ix (e_var (i := 1) rfl (.inr (.inl rfl)) rfl).ql (e_var (i := 2) rfl (.inl rfl) rfl) (atI_zip (mem_rng.mp hi).1 hp).2 (fun _ _ => rfl)) a_nil (fun _ _ => rfl)) (fun _ _ => rfl))
                (hR _ (mem_at (atI_zip (mem_rng.mp hi).1 hp).2) _) rfl (fun _ _ => rfl) (fun _ => rfl) (by decide)))
            (compM_at (by rw [List.length_zip, hn, Nat.min_self])) nd__law_is rfl (by decide) (fun _ _ => rfl))) (fun _ _ => rfl)) ?_
          rw [lawAll_zip hn]
          show _ = PyData.bool _
          rw [lawIs]
      · refine j_ifT (TJ.of (t_w (w_or (t_not (t_val (e_isi rfl C.b_isinstance rfl C.b_tuple rfl (e_var (i := 0) rfl (.inr (.inl rfl)) rfl) (fun _ _ => rfl) (kit_tuple _) (fun _ => rfl) (by decide) rfl) (fun _ _ => rfl))) fun _ => w_or1 (t_cmp (c_neI (e_len rfl C.b_len (e_var (i := 0) rfl (.inr (.inl rfl)) rfl).qt (fun _ _ => rfl)) (e_len rfl C.b_len (e_var (i := 1) rfl (.inr (.inl rfl)) rfl).ql (fun _ _ => rfl))) (nomark _)))) ?_) ?_
        · rw [decide_eq_false (by omega)]; simp
        · exact j_ret e_bl (by rw [lawIs, lawAll_len hn]; rfl)
    · have hv' : isInst "tuple" v = false := Bool.eq_false_iff.mpr hv
      refine j_ifT (TJ.of (t_w (w_or (k := true) (l := true) (TJ.of (t_not (t_val (e_isi rfl C.b_isinstance rfl C.b_tuple rfl (e_var (i := 0) rfl (.inr (.inl rfl)) rfl) (fun _ _ => rfl) (kit_tuple _) (fun _ => rfl) (by decide) rfl) (fun _ _ => rfl))) (by rw [hv']; rfl)) fun z => by cases z)) rfl) ?_
      exact j_ret e_bl (by rw [(no_tup hv').2]; rfl)
  | dict x => exact absurd rfl (hd x)
theorem okD_seq {k : Nat} {d : PyData} {ds : List PyData} (h : okD k d = true) (e : d = .tuple ds ∨ d = .list ds) : ∃ k', k = k' + 1 ∧ ds.length ≤ 8388608 ∧ ∀ x ∈ ds, okD k' x = true := by
  cases k with
  | zero => rcases e with rfl | rfl <;> exact absurd h (by simp [okD])
  | succ k =>
    refine ⟨k, rfl, ?_⟩
    rcases e with rfl | rfl <;> (simp only [okD, Bool.and_eq_true, decide_eq_true_eq, List.all_eq_true] at h; exact h)
theorem okD_dict {k : Nat} {x : List (PyData × PyData)} : okD k (.dict x) ≠ true := by cases k <;> simp [okD]
theorem okk__law_is (C : Gl75 K mg) (G0 : Known P w K mg base tabs 1 "_law_is_integer" 1 R__law_is_integer) : ∀ k, Known P w K mg base tabs (k + 2) "_law_is" 2 (RLk k)
  | k => by
    refine known_of (k := k + 1) C.d__law_is sc__law_is fun cdv B F0 ds r _ hr => ?_
    obtain ⟨v, d, rfl, hk, rfl⟩ := hr
    refine (j__law_is C G0 cdv B F0 (k + 1) (Nat.le_add_left 1 k) v d (fun ds e => ?_) fun x e => okD_dict (e ▸ hk)).body rfl
    obtain ⟨k', rfl, h1, h2⟩ := okD_seq hk e
    exact ⟨h1, RLk k', okk__law_is C G0 k', fun e he v => ⟨v, e, rfl, h2 e he, rfl⟩⟩
theorem ok__law_is (C : Gl75 K mg) : Known P w K mg base tabs 8 "_law_is" 2 R__law_is := by
  refine known_of (k := 7) C.d__law_is sc__law_is fun cdv B F0 ds r _ hr => ?_
  obtain ⟨v, d, y, rfl, hy, rfl⟩ := hr
  unfold m__law_is at hy
  split at hy
  · rename_i hk
    cases hy
    refine (j__law_is C (ok__law_is_integer C) cdv B F0 7 (by decide) v d (fun ds e => ?_) fun x e => okD_dict (e ▸ hk)).body rfl
    obtain ⟨k', ek, h1, h2⟩ := okD_seq hk e
    obtain rfl : k' = 5 := by omega
    exact ⟨h1, RLk 5, okk__law_is C (ok__law_is_integer C) 5, fun e he v => ⟨v, e, rfl, h2 e he, rfl⟩⟩
  · cases hy

def R__law_is_integers (ds : List PyData) (r : PyData) : Prop := ∃ (value1 : (Option (List Int))), ∃ y, ds = [(eO (eT eI)) value1] ∧ m__law_is_integers value1 = some y ∧ r = eB y
theorem j__law_is_integers (C : Gl75 K mg) (cdv : Value) (B F0 : Hp) (value1 : (Option (List Int))) : J (Stat.of P w K mg base ["value", "number"] (defScope s__law_is_integers) 1 tabs cdv B F0) [.sh ((eO (eT eI)) value1), .un] (defBody s__law_is_integers) (pT eB) (m__law_is_integers value1) := by
  unfold m__law_is_integers
  refine j_bind fun t6 ht6 => ?_
  exact j_ret (EO.elim (eo_and (eo_some (encB := eB) (e_isi rfl C.b_isinstance rfl C.b_tuple rfl (e_var (i := 0) rfl (.inl rfl) rfl) (fun _ _ => rfl) (kit_tuple _) (fun _ => rfl) (by decide) rfl)) fun _ => (eo_one (eo_bind fun t2 ht2 => (eo_bind fun l5 hl5 => (eo_some (encB := eB) (e_all (bs := l5) rfl C.b_all (FJ.q (f_lc (own := [("number", 1)]) (enc := eI) (encB := eB) (xs := t2) (f := (fun (x3 : Int) => ((m__law_is_integer (eI x3)).bind fun t4 => (some (some t4))))) (IW.x (i_tup (EJ.some (enc := (eT eI)) (e_var (i := 0) rfl (.inl rfl) rfl) ht2))) (fun x3 _ => (cb_bind fun t4 ht4 => (cb0T (y := t4) (g_name (i := 1) ⟨nd__law_is_integers, rfl, .inl rfl, .inr rfl⟩) (by decide) (EJ.of (d' := eB t4) (e_callK (ok__law_is_integer C) (Nat.le_of_ble_eq_true rfl) rfl (a_cons (e_var (i := 1) rfl (.inl rfl) rfl) a_nil (fun _ _ => rfl)) ⟨(eI x3), t4, rfl, ht4, rfl⟩ rfl (fun _ _ => rfl) (fun _ => rfl) (by decide)) rfl)))) hl5 nd__law_is_integers rfl (by decide) (fun _ _ => rfl))) (fun _ _ => rfl))))))) ht6) rfl
theorem ok__law_is_integers (C : Gl75 K mg) : Known P w K mg base tabs 2 "_law_is_integers" 1 R__law_is_integers := known_of (k := 1) C.d__law_is_integers sc__law_is_integers fun cdv B F0 ds r _ hr => by
  obtain ⟨value1, y, rfl, hy, rfl⟩ := hr
  exact (j__law_is_integers C cdv B F0 value1).body hy
def R__law_bent (ds : List PyData) (r : PyData) : Prop := ∃ (row1 : (List Int)), ∃ (draws2 : (List Int)), ∃ (most3 : Int), ∃ y, ds = [(eT eI) row1, (eL eI) draws2, eI most3] ∧ m__law_bent row1 draws2 most3 = some y ∧ r = (eT eI) y
theorem j__law_bent (C : Gl75 K mg) (cdv : Value) (B F0 : Hp) (row1 : (List Int)) (draws2 : (List Int)) (most3 : Int) : J (Stat.of P w K mg base ["row", "draws", "most", "way", "at", "odd"] (defScope s__law_bent) 0 tabs cdv B F0) [.sh ((eT eI) row1), .sh ((eL eI) draws2), .sh (eI most3), .un, .un, .un] (defBody s__law_bent) (pT (eT eI)) (m__law_bent row1 draws2 most3) := by
  unfold m__law_bent
  refine j_bind fun t4 ht4 => ?_
  refine j_bind fun way5 hway5 => ?_
  refine j_set (i := 3) ⟨nd__law_bent, rfl, .inl rfl, .inr rfl⟩ (EJ.of (e_mod (e_int1 rfl C.b_int (e_ixT (enc := eI) (xs := draws2) (EJ.ql (e_var (i := 1) rfl (.inl rfl) rfl)) e_int ht4 (fun _ _ => rfl)) (fun _ _ => rfl)) e_int (by decide)) (congrArg eI (Option.some.inj hway5))) (fun _ _ => rfl) ?_
  refine j_bind fun t6 ht6 => ?_
  refine j_bind fun at8 hat8 => ?_
  refine j_set (i := 4) ⟨nd__law_bent, rfl, .inl rfl, .inr rfl⟩ (e_modO (e_int1 rfl C.b_int (e_ixT (enc := eI) (xs := draws2) (EJ.ql (e_var (i := 1) rfl (.inl rfl) rfl)) e_int ht6 (fun _ _ => rfl)) (fun _ _ => rfl)) (e_add (e_lenT (enc := eI) (xs := row1) rfl C.b_len (EJ.qt (e_var (i := 0) rfl (.inl rfl) rfl)) (fun _ _ => rfl)) e_int) hat8) (fun _ _ => rfl) ?_
  refine j_bind fun t9 ht9 => ?_
  refine j_bind fun t10 ht10 => ?_
  refine j_bind fun t11 ht11 => ?_
  refine j_bind fun odd13 hodd13 => ?_
  refine j_set (i := 5) ⟨nd__law_bent, rfl, .inl rfl, .inr rfl⟩ (e_ixT (enc := eI) (xs := [(t10 - (1 : Int)), (100000000000000000000 : Int), ((0 : Int) - (1 : Int))]) (EJ.qt (EJ.of (d' := ((eT eI) [(t10 - (1 : Int)), (100000000000000000000 : Int), ((0 : Int) - (1 : Int))])) (e_tup (a_cons (e_sub (e_modO (e_int1 rfl C.b_int (e_ixT (enc := eI) (xs := draws2) (EJ.ql (e_var (i := 1) rfl (.inl rfl) rfl)) e_int ht9 (fun _ _ => rfl)) (fun _ _ => rfl)) (e_add (e_var (i := 2) rfl (.inl rfl) rfl) e_int) ht10) e_int) (a_cons (EJ.of (d' := .int 100000000000000000000) (e_pow e_int e_int ⟨by decide, by decide, by decide⟩) rfl) (a_cons (e_sub e_int e_int) a_nil (fun _ _ => rfl)) (fun _ _ => rfl)) (fun _ _ => rfl)) (len_le (n := 3) rfl (by decide))) rfl)) (e_fdiv (e_mod (e_fdiv (e_int1 rfl C.b_int (e_ixT (enc := eI) (xs := draws2) (EJ.ql (e_var (i := 1) rfl (.inl rfl) rfl)) e_int ht11 (fun _ _ => rfl)) (fun _ _ => rfl)) e_int ⟨by decide, by decide⟩) e_int (by decide)) e_int ⟨by decide, by decide⟩) hodd13 (fun _ _ => rfl)) (fun _ _ => rfl) ?_
  refine j_ifR (t_cmp (c_eqI (e_var (i := 3) rfl (.inl rfl) rfl) e_int) (nomark _)) (fun hc => ?_) (fun hc => ?_)
  · refine j_bind fun t14 ht14 => ?_
    exact j_ret (e_catO (enc := eI) (e_slTT (enc := eI) (e_var (i := 0) rfl (.inl rfl) rfl) o_none (o_some (e_var (i := 4) rfl (.inl rfl) rfl))) (e_slTT (enc := eI) (e_var (i := 0) rfl (.inl rfl) rfl) (o_some (e_add (e_var (i := 4) rfl (.inl rfl) rfl) e_int)) o_none) ht14) rfl
  · refine j_ifR (t_cmp (c_eqI (e_var (i := 3) rfl (.inl rfl) rfl) e_int) (nomark _)) (fun hc => ?_) (fun hc => ?_)
    · refine j_bind fun t15 ht15 => ?_
      refine j_bind fun t16 ht16 => ?_
      exact j_ret (e_catO (enc := eI) (e_catO (enc := eI) (e_slTT (enc := eI) (e_var (i := 0) rfl (.inl rfl) rfl) o_none (o_some (e_var (i := 4) rfl (.inl rfl) rfl))) (EJ.of (d' := ((eT eI) [odd13])) (e_tup (a_cons (e_var (i := 5) rfl (.inl rfl) rfl) a_nil (fun _ _ => rfl)) (len_le (n := 1) rfl (by decide))) rfl) ht15) (e_slTT (enc := eI) (e_var (i := 0) rfl (.inl rfl) rfl) (o_some (e_var (i := 4) rfl (.inl rfl) rfl)) o_none) ht16) rfl
    · refine j_ifR (t_cmp (c_lt (e_var (i := 3) rfl (.inl rfl) rfl) e_int) (nomark _)) (fun hc => ?_) (fun hc => ?_)
      · refine j_bind fun t17 ht17 => ?_
        refine j_bind fun t18 ht18 => ?_
        exact j_ret (e_catO (enc := eI) (e_catO (enc := eI) (e_slTT (enc := eI) (e_var (i := 0) rfl (.inl rfl) rfl) o_none (o_some (e_var (i := 4) rfl (.inl rfl) rfl))) (EJ.of (d' := ((eT eI) [odd13])) (e_tup (a_cons (e_var (i := 5) rfl (.inl rfl) rfl) a_nil (fun _ _ => rfl)) (len_le (n := 1) rfl (by decide))) rfl) ht17) (e_slTT (enc := eI) (e_var (i := 0) rfl (.inl rfl) rfl) (o_some (e_add (e_var (i := 4) rfl (.inl rfl) rfl) e_int)) o_none) ht18) rfl
      · refine j_bind fun t20 ht20 => ?_
        exact j_ret (EO.elim (eo_if (encB := (eT eI)) (t_cmp (c_eqI (e_var (i := 3) rfl (.inl rfl) rfl) e_int) (nomark _)) (fun _ => (eo_some (encB := (eT eI)) (e_revTT (enc := eI) (e_var (i := 0) rfl (.inl rfl) rfl)))) (fun _ => (eo_bind fun t19 ht19 => (eo_some (encB := (eT eI)) (e_catO (enc := eI) (e_slTT (enc := eI) (e_var (i := 0) rfl (.inl rfl) rfl) o_none (o_some (e_var (i := 4) rfl (.inl rfl) rfl))) (e_slTT (enc := eI) (e_var (i := 0) rfl (.inl rfl) rfl) (o_some (e_max2 rfl C.b_max e_int (e_sub (e_var (i := 4) rfl (.inl rfl) rfl) e_int) (fun _ _ => rfl) (fun _ _ => rfl) (fun _ => rfl))) o_none) ht19))))) ht20) rfl
theorem ok__law_bent (C : Gl75 K mg) : Known P w K mg base tabs 1 "_law_bent" 3 R__law_bent := known_of (k := 0) C.d__law_bent sc__law_bent fun cdv B F0 ds r _ hr => by
  obtain ⟨row1, draws2, most3, y, rfl, hy, rfl⟩ := hr
  exact (j__law_bent C cdv B F0 row1 draws2 most3).body hy
def R__law_last (ds : List PyData) (r : PyData) : Prop := ∃ (larder1 : (Int × Int)), ∃ (days2 : (List (Int × Int))), ∃ (loads3 : (List Int)), ∃ y, ds = [(eP2 eI eI) larder1, (eT (eP2 eI eI)) days2, (eT eI) loads3] ∧ m__law_last larder1 days2 loads3 = some y ∧ r = eB y
theorem j__law_last (C : Gl75 K mg) (cdv : Value) (B F0 : Hp) (larder1 : (Int × Int)) (days2 : (List (Int × Int))) (loads3 : (List Int)) : J (Stat.of P w K mg base ["larder", "days", "loads", "stock", "at"] (defScope s__law_last) 0 tabs cdv B F0) [.sh ((eP2 eI eI) larder1), .sh ((eT (eP2 eI eI)) days2), .sh ((eT eI) loads3), .un, .un] (defBody s__law_last) (pT eB) (m__law_last larder1 days2 loads3) := by
  unfold m__law_last
  refine j_ifR (t_cmp (c_neI (e_lenT (enc := eI) (xs := loads3) rfl C.b_len (EJ.qt (e_var (i := 2) rfl (.inl rfl) rfl)) (fun _ _ => rfl)) (e_lenT (enc := (eP2 eI eI)) (xs := days2) rfl C.b_len (EJ.qt (e_var (i := 1) rfl (.inl rfl) rfl)) (fun _ _ => rfl))) (nomark _)) (fun hc => ?_) (fun hc => ?_)
  · exact j_ret e_bl rfl
  · refine j_bind fun stock4 hstock4 => ?_
    refine j_set (i := 3) ⟨nd__law_last, rfl, .inl rfl, .inr rfl⟩ (EJ.of (e_ixC (i := 1) (e_var (i := 0) rfl (.inl rfl) rfl) rfl) (congrArg eI (Option.some.inj hstock4))) (fun _ _ => rfl) ?_
    refine j_bind fun r5 hr5 => ?_
    refine j_to (γ2 := [.sh ((eP2 eI eI) larder1), .sh ((eT (eP2 eI eI)) days2), .sh ((eT eI) loads3), .sh (eI stock4), .un]) rfl ?_
    refine j_forR (enc := eI) (xs := r5) (encR := eB) (γ0 := fun (s6 : (Int)) => [.sh ((eP2 eI eI) larder1), .sh ((eT (eP2 eI eI)) days2), .sh ((eT eI) loads3), .sh (eI s6), .un]) (t0 := (stock4)) (i_range1O rfl C.b_range (e_lenT (enc := (eP2 eI eI)) (xs := days2) rfl C.b_len (EJ.qt (e_var (i := 1) rfl (.inl rfl) rfl)) (fun _ _ => rfl)) (fun _ _ => rfl) hr5) (⟨rfl, ⟨rfl, ⟨rfl, ⟨rfl, trivial⟩⟩⟩⟩) (fun s6 x7 hx7 => ⟨_, _, (g_name (i := 4) ⟨nd__law_last, rfl, .inl rfl, .inr rfl⟩), ?_⟩) (fun _ => rfl) (fun s6 => ?_) (fun _ _ => rfl)
    · refine j_bind fun t8 ht8 => ?_
      refine j_bind fun t9 ht9 => ?_
      refine j_bind fun stock10 hstock10 => ?_
      refine j_set (i := 3) ⟨nd__law_last, rfl, .inl rfl, .inr rfl⟩ (EJ.of (e_sub (e_add (e_var (i := 3) rfl (.inl rfl) rfl) (e_ixT (enc := eI) (xs := loads3) (EJ.qt (e_var (i := 2) rfl (.inl rfl) rfl)) (e_var (i := 4) rfl (.inl rfl) rfl) ht8 (fun _ _ => rfl))) (e_ixC (i := 1) (e_ixT (enc := (eP2 eI eI)) (xs := days2) (EJ.qt (e_var (i := 1) rfl (.inl rfl) rfl)) (e_var (i := 4) rfl (.inl rfl) rfl) ht9 (fun _ _ => rfl)) rfl)) (congrArg eI (Option.some.inj hstock10))) (fun _ _ => rfl) ?_
      refine j_bind fun t14 ht14 => ?_
      refine j_ifR (TOp.elim (to_w (wo_or (to_bind fun t11 ht11 => (to_some (t_cmp (c_lt (e_ixT (enc := eI) (xs := loads3) (EJ.qt (e_var (i := 2) rfl (.inl rfl) rfl)) (e_var (i := 4) rfl (.inl rfl) rfl) ht11 (fun _ _ => rfl)) e_int) (nomark _)))) fun _ => (wo_or (to_bind fun t12 ht12 => (to_bind fun t13 ht13 => (to_some (t_cmp (c_gt (e_ixT (enc := eI) (xs := loads3) (EJ.qt (e_var (i := 2) rfl (.inl rfl) rfl)) (e_var (i := 4) rfl (.inl rfl) rfl) ht12 (fun _ _ => rfl)) (e_ixC (i := 0) (e_ixT (enc := (eP2 eI eI)) (xs := days2) (EJ.qt (e_var (i := 1) rfl (.inl rfl) rfl)) (e_var (i := 4) rfl (.inl rfl) rfl) ht13 (fun _ _ => rfl)) rfl)) (nomark _))))) fun _ => (wo_or (to_some (t_cmp (c_lt (e_var (i := 3) rfl (.inl rfl) rfl) e_int) (nomark _))) fun _ => (wo_or1 (to_some (t_cmp (c_gt (e_var (i := 3) rfl (.inl rfl) rfl) (e_ixC (i := 0) (e_var (i := 0) rfl (.inl rfl) rfl) rfl)) (nomark _)))))))) ht14) (fun hc => ?_) (fun hc => ?_)
      · exact j_ret e_bl rfl
      · refine j_to (γ2 := [.sh ((eP2 eI eI) larder1), .sh ((eT (eP2 eI eI)) days2), .sh ((eT eI) loads3), .sh (eI stock10), .sh (eI x7)]) rfl ?_
        exact j_nil (⟨rfl, ⟨rfl, ⟨rfl, ⟨rfl, trivial⟩⟩⟩⟩)
    · exact j_ret e_bl rfl
theorem ok__law_last (C : Gl75 K mg) : Known P w K mg base tabs 1 "_law_last" 3 R__law_last := known_of (k := 0) C.d__law_last sc__law_last fun cdv B F0 ds r _ hr => by
  obtain ⟨larder1, days2, loads3, y, rfl, hy, rfl⟩ := hr
  exact (j__law_last C cdv B F0 larder1 days2 loads3).body hy
def R__law_every (ds : List PyData) (r : PyData) : Prop := ∃ (larder1 : (Int × Int)), ∃ (days2 : (List (Int × Int))), ∃ y, ds = [(eP2 eI eI) larder1, (eT (eP2 eI eI)) days2] ∧ m__law_every larder1 days2 = some y ∧ r = (eL (eT eI)) y
theorem j__law_every (C : Gl75 K mg) (cdv : Value) (B F0 : Hp) (larder1 : (Int × Int)) (days2 : (List (Int × Int))) : J (Stat.of P w K mg base ["larder", "days", "every", "most", "need", "longer", "loads", "stock", "some", "load"] (defScope s__law_every) 0 tabs cdv B F0) [.sh ((eP2 eI eI) larder1), .sh ((eT (eP2 eI eI)) days2), .un, .un, .un, .un, .un, .un, .un, .un] (defBody s__law_every) (pT (eL (eT eI))) (m__law_every larder1 days2) := by
  unfold m__law_every
  refine j_bind fun every3 hevery3 => ?_
  refine j_set (i := 2) ⟨nd__law_every, rfl, .inl rfl, .inr rfl⟩ (EJ.of (FJ.ej (FJ.of (ds' := List.map (eP2 (eT eI) eI) [(([] : List Int), larder1.2)]) (f_lst (a_cons (EJ.of (d' := ((eP2 (eT eI) eI) (([] : List Int), larder1.2))) (e_tup (a_cons (EJ.of (d' := ((eT eI) ([] : List Int))) (e_tup a_nil (len_le (n := 0) rfl (by decide))) rfl) (a_cons (e_ixC (i := 1) (e_var (i := 0) rfl (.inr (.inl rfl)) rfl) rfl) a_nil (fun _ _ => rfl)) (fun _ _ => rfl)) (len_le (n := 2) rfl (by decide))) rfl) a_nil (fun _ _ => rfl)) (len_le (n := 1) rfl (by decide))) rfl)) (congrArg (eL (eP2 (eT eI) eI)) (Option.some.inj hevery3))) (fun _ _ => rfl) ?_
  refine j_to (γ2 := [.sh ((eP2 eI eI) larder1), .sh ((eT (eP2 eI eI)) days2), .sh ((eL (eP2 (eT eI) eI)) every3), .un, .un, .un, .un, .un, .un, .un]) rfl ?_
  refine j_for (enc := (eP2 eI eI)) (xs := days2) (γ0 := fun (s4 : ((List ((List Int) × Int)))) => [.sh ((eP2 eI eI) larder1), .un, .sh ((eL (eP2 (eT eI) eI)) s4), .un, .un, .un, .un, .un, .un, .un]) (t0 := (every3)) (i_tup (e_var (i := 1) rfl (.inl rfl) rfl)) (⟨rfl, ⟨rfl, trivial⟩⟩) (fun s4 x5 hx5 => ⟨_, _, (g_tup (gs_cons (g_name (i := 3) ⟨nd__law_every, rfl, .inl rfl, .inr rfl⟩) (gs_cons (g_name (i := 4) ⟨nd__law_every, rfl, .inr rfl, .inl rfl⟩) gs_nil (fun _ _ => rfl)) (fun _ _ => rfl)) (fun _ => rfl) (fun _ => rfl)), ?_⟩) (fun s4 => ?_) (fun _ _ => rfl)
  · refine j_bind fun longer6 hlonger6 => ?_
    refine j_set (i := 5) ⟨nd__law_every, rfl, .inl rfl, .inr rfl⟩ (EJ.of (FJ.ej (FJ.of (ds' := List.map (eP2 (eT eI) eI) ([] : List ((List Int) × Int))) (f_lst a_nil (len_le (n := 0) rfl (by decide))) rfl)) (congrArg (eL (eP2 (eT eI) eI)) (Option.some.inj hlonger6))) (fun _ _ => rfl) ?_
    refine j_to (γ2 := [.sh ((eP2 eI eI) larder1), .un, .sh ((eL (eP2 (eT eI) eI)) s4), .sh (eI x5.1), .sh (eI x5.2), .sh ((eL (eP2 (eT eI) eI)) longer6), .un, .un, .un, .un]) rfl ?_
    refine j_for (enc := (eP2 (eT eI) eI)) (xs := s4) (γ0 := fun (s7 : ((List ((List Int) × Int)))) => [.sh ((eP2 eI eI) larder1), .un, .un, .sh (eI x5.1), .sh (eI x5.2), .sh ((eL (eP2 (eT eI) eI)) s7), .un, .un, .un, .un]) (t0 := (longer6)) (i_list (e_var (i := 2) rfl (.inl rfl) rfl)) (⟨rfl, ⟨rfl, ⟨rfl, ⟨rfl, trivial⟩⟩⟩⟩) (fun s7 x8 hx8 => ⟨_, _, (g_tup (gs_cons (g_name (i := 6) ⟨nd__law_every, rfl, .inr rfl, .inl rfl⟩) (gs_cons (g_name (i := 7) ⟨nd__law_every, rfl, .inr rfl, .inl rfl⟩) gs_nil (fun _ _ => rfl)) (fun _ _ => rfl)) (fun _ => rfl) (fun _ => rfl)), ?_⟩) (fun s7 => ?_) (fun _ _ => rfl)
    · refine j_bind fun r9 hr9 => ?_
      refine j_bind fun some11 hsome11 => ?_
      refine j_setLc (i := 8) (own := [("load", 9)]) (encA := eI) (encB := eI) (xs := r9) (f := (fun (x10 : Int) => some (if ((decide ((0 : Int) ≤ ((x8.2 + x10) - x5.2))) && (decide (((x8.2 + x10) - x5.2) ≤ larder1.1))) = true then some x10 else none))) (ys := some11) ⟨nd__law_every, rfl, .inl rfl, .inr rfl⟩ rfl (IW.x (i_range1O rfl C.b_range (e_add (e_var (i := 3) rfl (.inl rfl) rfl) e_int) (fun _ _ => rfl) hr9)) (fun x10 _ => cb1T (k := ((decide ((0 : Int) ≤ ((x8.2 + x10) - x5.2))) && (decide (((x8.2 + x10) - x5.2) ≤ larder1.1)))) (y := x10) (g_name (i := 9) ⟨nd__law_every, rfl, .inl rfl, .inr rfl⟩) (by decide) (t_chain (g := fun i j => decide (i ≤ j)) (g' := fun i j => decide (i ≤ j)) (fun _ => op_le) (fun _ => op_le) e_int (e_sub (e_add (e_var (i := 7) rfl (.inr (.inl rfl)) rfl) (e_var (i := 9) rfl (.inl rfl) rfl)) (e_var (i := 4) rfl (.inr (.inl rfl)) rfl)) (fun _ => (e_ixC (i := 0) (e_var (i := 0) rfl (.inr (.inl rfl)) rfl) rfl)) rfl) (fun _ => (e_var (i := 9) rfl (.inl rfl) rfl))) ((compM_tot _).trans hsome11) rfl (by decide) (fun _ _ => rfl) rfl rfl rfl ?_
      refine j_share (j := 8) rfl ?_
      refine j_bind fun l14 hl14 => ?_
      refine j_bind fun longer16 hlonger16 => ?_
      refine j_set (i := 5) ⟨nd__law_every, rfl, .inl rfl, .inr rfl⟩ (FJ.ej (f_catO (enc := (eP2 (eT eI) eI)) (EJ.ql (e_var (i := 5) rfl (.inl rfl) rfl)) (FJ.q (f_lc (own := [("load", 9)]) (enc := eI) (encB := (eP2 (eT eI) eI)) (xs := some11) (f := (fun (x12 : Int) => ((catO x8.1 [x12]).bind fun t13 => (some (some (t13, ((x8.2 + x12) - x5.2))))))) (IW.x (i_list (e_var (i := 8) rfl (.inl rfl) rfl))) (fun x12 _ => (cb_bind fun t13 ht13 => (cb0T (y := (t13, ((x8.2 + x12) - x5.2))) (g_name (i := 9) ⟨nd__law_every, rfl, .inl rfl, .inr rfl⟩) (by decide) (EJ.of (d' := ((eP2 (eT eI) eI) (t13, ((x8.2 + x12) - x5.2)))) (e_tup (a_cons (e_catO (enc := eI) (e_var (i := 6) rfl (.inr (.inl rfl)) rfl) (EJ.of (d' := ((eT eI) [x12])) (e_tup (a_cons (e_var (i := 9) rfl (.inl rfl) rfl) a_nil (fun _ _ => rfl)) (len_le (n := 1) rfl (by decide))) rfl) ht13) (a_cons (e_sub (e_add (e_var (i := 7) rfl (.inr (.inl rfl)) rfl) (e_var (i := 9) rfl (.inl rfl) rfl)) (e_var (i := 4) rfl (.inr (.inl rfl)) rfl)) a_nil (fun _ _ => rfl)) (fun _ _ => rfl)) (len_le (n := 2) rfl (by decide))) rfl)))) hl14 nd__law_every rfl (by decide) (fun _ _ => rfl))) hlonger16)) (fun _ _ => rfl) ?_
      refine j_to (γ2 := [.sh ((eP2 eI eI) larder1), .un, .un, .sh (eI x5.1), .sh (eI x5.2), .sh ((eL (eP2 (eT eI) eI)) longer16), .sh ((eT eI) x8.1), .sh (eI x8.2), .sh ((eL eI) some11), .un]) rfl ?_
      exact j_nil (⟨rfl, ⟨rfl, ⟨rfl, ⟨rfl, trivial⟩⟩⟩⟩)
    · refine j_bind fun every17 hevery17 => ?_
      refine j_set (i := 2) ⟨nd__law_every, rfl, .inl rfl, .inr rfl⟩ (EJ.of (e_var (i := 5) rfl (.inl rfl) rfl) (congrArg (eL (eP2 (eT eI) eI)) (Option.some.inj hevery17))) (fun _ _ => rfl) ?_
      refine j_to (γ2 := [.sh ((eP2 eI eI) larder1), .un, .sh ((eL (eP2 (eT eI) eI)) every17), .sh (eI x5.1), .sh (eI x5.2), .sh ((eL (eP2 (eT eI) eI)) s7), .un, .un, .un, .un]) rfl ?_
      exact j_nil (⟨rfl, ⟨rfl, trivial⟩⟩)
  · exact j_ret (FJ.ej (f_lc (own := [("loads", 6), ("stock", 7)]) (enc := (eP2 (eT eI) eI)) (encB := (eT eI)) (xs := s4) (f := (fun (x18 : ((List Int) × Int)) => some (some x18.1))) (IW.x (i_list (e_var (i := 2) rfl (.inl rfl) rfl))) (fun x18 _ => cb0T (y := x18.1) (g_tup (gs_cons (g_name (i := 6) ⟨nd__law_every, rfl, .inl rfl, .inr rfl⟩) (gs_cons (g_name (i := 7) ⟨nd__law_every, rfl, .inl rfl, .inr rfl⟩) gs_nil (fun _ _ => rfl)) (fun _ _ => rfl)) (fun _ => rfl) (fun _ => rfl)) (by decide) (e_var (i := 6) rfl (.inl rfl) rfl)) (compM_map _) nd__law_every rfl (by decide) (fun _ _ => rfl))) rfl
theorem ok__law_every (C : Gl75 K mg) : Known P w K mg base tabs 1 "_law_every" 2 R__law_every := known_of (k := 0) C.d__law_every sc__law_every fun cdv B F0 ds r _ hr => by
  obtain ⟨larder1, days2, y, rfl, hy, rfl⟩ := hr
  exact (j__law_every C cdv B F0 larder1 days2).body hy
def R__law_lack (ds : List PyData) (r : PyData) : Prop := ∃ (larder1 : (Int × Int)), ∃ (days2 : (List (Int × Int))), ∃ (a3 : Int), ∃ (b4 : Int), ∃ y, ds = [(eP2 eI eI) larder1, (eT (eP2 eI eI)) days2, eI a3, eI b4] ∧ m__law_lack larder1 days2 a3 b4 = some y ∧ r = eB y
theorem j__law_lack (C : Gl75 K mg) (cdv : Value) (B F0 : Hp) (larder1 : (Int × Int)) (days2 : (List (Int × Int))) (a3 : Int) (b4 : Int) : J (Stat.of P w K mg base ["larder", "days", "a", "b", "there", "day"] (defScope s__law_lack) 0 tabs cdv B F0) [.sh ((eP2 eI eI) larder1), .sh ((eT (eP2 eI eI)) days2), .sh (eI a3), .sh (eI b4), .un, .un] (defBody s__law_lack) (pT eB) (m__law_lack larder1 days2 a3 b4) := by
  unfold m__law_lack
  refine j_ifR (t_w (w_or (t_cmp (c_lt (e_var (i := 2) rfl (.inl rfl) rfl) e_int) (nomark _)) fun _ => (w_or (t_cmp (c_lt (e_var (i := 3) rfl (.inl rfl) rfl) (e_var (i := 2) rfl (.inl rfl) rfl)) (nomark _)) fun _ => (w_or1 (t_cmp (c_ge (e_var (i := 3) rfl (.inl rfl) rfl) (e_lenT (enc := (eP2 eI eI)) (xs := days2) rfl C.b_len (EJ.qt (e_var (i := 1) rfl (.inl rfl) rfl)) (fun _ _ => rfl))) (nomark _)))))) (fun hc => ?_) (fun hc => ?_)
  · exact j_ret e_bl rfl
  · refine j_bind fun there5 hthere5 => ?_
    refine j_set (i := 4) ⟨nd__law_lack, rfl, .inl rfl, .inr rfl⟩ (EJ.of (e_if (enc := eI) (t_cmp (c_eqI (e_var (i := 2) rfl (.inl rfl) rfl) e_int) (nomark _)) (fun _ => (e_ixC (i := 1) (e_var (i := 0) rfl (.inl rfl) rfl) rfl)) (fun _ => (e_ixC (i := 0) (e_var (i := 0) rfl (.inl rfl) rfl) rfl))) (congrArg eI (Option.some.inj hthere5))) (fun _ _ => rfl) ?_
    exact j_ret (e_cmp (c_gt (e_sum (ns := (List.map (fun (x6 : (Int × Int)) => (x6.2 - x6.1)) (cut days2 (some a3) (some (b4 + (1 : Int)))))) rfl C.b_sum (FJ.q (f_lc (own := [("day", 5)]) (enc := (eP2 eI eI)) (encB := eI) (xs := (cut days2 (some a3) (some (b4 + (1 : Int))))) (f := (fun (x6 : (Int × Int)) => some (some (x6.2 - x6.1)))) (IW.x (i_tup (e_slTT (enc := (eP2 eI eI)) (e_var (i := 1) rfl (.inl rfl) rfl) (o_some (e_var (i := 2) rfl (.inl rfl) rfl)) (o_some (e_add (e_var (i := 3) rfl (.inl rfl) rfl) e_int))))) (fun x6 _ => cb0T (y := (x6.2 - x6.1)) (g_name (i := 5) ⟨nd__law_lack, rfl, .inl rfl, .inr rfl⟩) (by decide) (e_sub (e_ixC (i := 1) (e_var (i := 5) rfl (.inl rfl) rfl) rfl) (e_ixC (i := 0) (e_var (i := 5) rfl (.inl rfl) rfl) rfl))) (compM_map _) nd__law_lack rfl (by decide) (fun _ _ => rfl))) (fun _ _ => rfl)) (e_var (i := 4) rfl (.inl rfl) rfl)) (nomark _)) rfl
theorem ok__law_lack (C : Gl75 K mg) : Known P w K mg base tabs 1 "_law_lack" 4 R__law_lack := known_of (k := 0) C.d__law_lack sc__law_lack fun cdv B F0 ds r _ hr => by
  obtain ⟨larder1, days2, a3, b4, y, rfl, hy, rfl⟩ := hr
  exact (j__law_lack C cdv B F0 larder1 days2 a3 b4).body hy
def R__law_lacks (ds : List PyData) (r : PyData) : Prop := ∃ (larder1 : (Int × Int)), ∃ (days2 : (List (Int × Int))), ∃ y, ds = [(eP2 eI eI) larder1, (eT (eP2 eI eI)) days2] ∧ m__law_lacks larder1 days2 = some y ∧ r = (eL (eP2 eI eI)) y
theorem j__law_lacks (C : Gl75 K mg) (cdv : Value) (B F0 : Hp) (larder1 : (Int × Int)) (days2 : (List (Int × Int))) : J (Stat.of P w K mg base ["larder", "days", "pairs", "a", "b"] (defScope s__law_lacks) 1 tabs cdv B F0) [.sh ((eP2 eI eI) larder1), .sh ((eT (eP2 eI eI)) days2), .un, .un, .un] (defBody s__law_lacks) (pT (eL (eP2 eI eI))) (m__law_lacks larder1 days2) := by
  unfold m__law_lacks
  refine j_bind fun pairs3 hpairs3 => ?_
  refine j_set (i := 2) ⟨nd__law_lacks, rfl, .inl rfl, .inr rfl⟩ (EJ.of (FJ.ej (FJ.of (ds' := List.map (eP2 eI eI) ([] : List (Int × Int))) (f_lst a_nil (len_le (n := 0) rfl (by decide))) rfl)) (congrArg (eL (eP2 eI eI)) (Option.some.inj hpairs3))) (fun _ _ => rfl) ?_
  refine j_bind fun r4 hr4 => ?_
  refine j_to (γ2 := [.sh ((eP2 eI eI) larder1), .sh ((eT (eP2 eI eI)) days2), .sh ((eL (eP2 eI eI)) pairs3), .un, .un]) rfl ?_
  refine j_for (enc := eI) (xs := r4) (γ0 := fun (s5 : ((List (Int × Int)))) => [.sh ((eP2 eI eI) larder1), .sh ((eT (eP2 eI eI)) days2), .sh ((eL (eP2 eI eI)) s5), .un, .un]) (t0 := (pairs3)) (i_range1O rfl C.b_range (e_lenT (enc := (eP2 eI eI)) (xs := days2) rfl C.b_len (EJ.qt (e_var (i := 1) rfl (.inr (.inl rfl)) rfl)) (fun _ _ => rfl)) (fun _ _ => rfl) hr4) (⟨rfl, ⟨rfl, ⟨rfl, trivial⟩⟩⟩) (fun s5 x6 hx6 => ⟨_, _, (g_name (i := 3) ⟨nd__law_lacks, rfl, .inr rfl, .inl rfl⟩), ?_⟩) (fun s5 => ?_) (fun _ _ => rfl)
  · refine j_bind fun r7 hr7 => ?_
    refine j_bind fun l10 hl10 => ?_
    refine j_bind fun pairs12 hpairs12 => ?_
    refine j_set (i := 2) ⟨nd__law_lacks, rfl, .inl rfl, .inr rfl⟩ (FJ.ej (f_catO (enc := (eP2 eI eI)) (EJ.ql (e_var (i := 2) rfl (.inl rfl) rfl)) (FJ.q (f_lc (own := [("b", 4)]) (enc := eI) (encB := (eP2 eI eI)) (xs := r7) (f := (fun (x8 : Int) => ((m__law_lack larder1 days2 x6 x8).bind fun t9 => (if t9 = true then (some (x6, x8)).bind (fun y => some (some y)) else some none)))) (IW.x (i_range2O rfl C.b_range (e_var (i := 3) rfl (.inr (.inl rfl)) rfl) (e_lenT (enc := (eP2 eI eI)) (xs := days2) rfl C.b_len (EJ.qt (e_var (i := 1) rfl (.inr (.inl rfl)) rfl)) (fun _ _ => rfl)) (fun _ _ => rfl) (fun _ _ => rfl) hr7)) (fun x8 _ => (cb_bind fun t9 ht9 => (cb1 (k := t9) (o := (some (x6, x8))) (g_name (i := 4) ⟨nd__law_lacks, rfl, .inl rfl, .inr rfl⟩) (by decide) (t_val (EJ.of (d' := eB t9) (e_callK (ok__law_lack C) (Nat.le_of_ble_eq_true rfl) rfl (a_cons (e_var (i := 0) rfl (.inr (.inl rfl)) rfl) (a_cons (e_var (i := 1) rfl (.inr (.inl rfl)) rfl) (a_cons (e_var (i := 3) rfl (.inr (.inl rfl)) rfl) (a_cons (e_var (i := 4) rfl (.inl rfl) rfl) a_nil (fun _ _ => rfl)) (fun _ _ => rfl)) (fun _ _ => rfl)) (fun _ _ => rfl)) ⟨larder1, days2, x6, x8, t9, rfl, ht9, rfl⟩ rfl (fun _ _ => rfl) (fun _ => rfl) (by decide)) rfl) (fun _ _ => rfl)) (fun _ => (eo_some (encB := (eP2 eI eI)) (EJ.of (d' := ((eP2 eI eI) (x6, x8))) (e_tup (a_cons (e_var (i := 3) rfl (.inr (.inl rfl)) rfl) (a_cons (e_var (i := 4) rfl (.inl rfl) rfl) a_nil (fun _ _ => rfl)) (fun _ _ => rfl)) (len_le (n := 2) rfl (by decide))) rfl)))))) hl10 nd__law_lacks rfl (by decide) (fun _ _ => rfl))) hpairs12)) (fun _ _ => rfl) ?_
    refine j_to (γ2 := [.sh ((eP2 eI eI) larder1), .sh ((eT (eP2 eI eI)) days2), .sh ((eL (eP2 eI eI)) pairs12), .sh (eI x6), .un]) rfl ?_
    exact j_nil (⟨rfl, ⟨rfl, ⟨rfl, trivial⟩⟩⟩)
  · exact j_ret (e_var (i := 2) rfl (.inl rfl) rfl) rfl
theorem ok__law_lacks (C : Gl75 K mg) : Known P w K mg base tabs 2 "_law_lacks" 2 R__law_lacks := known_of (k := 1) C.d__law_lacks sc__law_lacks fun cdv B F0 ds r _ hr => by
  obtain ⟨larder1, days2, y, rfl, hy, rfl⟩ := hr
  exact (j__law_lacks C cdv B F0 larder1 days2).body hy
def R__law_asked_pairs (ds : List PyData) (r : PyData) : Prop := ∃ (larder1 : (Int × Int)), ∃ (days2 : (List (Int × Int))), ∃ (draws3 : (List Int)), ∃ y, ds = [(eP2 eI eI) larder1, (eT (eP2 eI eI)) days2, (eL eI) draws3] ∧ m__law_asked_pairs larder1 days2 draws3 = some y ∧ r = eB y
theorem j__law_asked_pairs (C : Gl75 K mg) (cdv : Value) (B F0 : Hp) (larder1 : (Int × Int)) (days2 : (List (Int × Int))) (draws3 : (List Int)) : J (Stat.of P w K mg base ["larder", "days", "draws", "size", "asked", "at", "a", "b"] (defScope s__law_asked_pairs) 8 tabs cdv B F0) [.sh ((eP2 eI eI) larder1), .sh ((eT (eP2 eI eI)) days2), .sh ((eL eI) draws3), .un, .un, .un, .un, .un] (defBody s__law_asked_pairs) (pT eB) (m__law_asked_pairs larder1 days2 draws3) := by
  unfold m__law_asked_pairs
  refine j_bind fun size4 hsize4 => ?_
  refine j_set (i := 3) ⟨nd__law_asked_pairs, rfl, .inl rfl, .inr rfl⟩ (EJ.of (e_lenT (enc := (eP2 eI eI)) (xs := days2) rfl C.b_len (EJ.qt (e_var (i := 1) rfl (.inr (.inl rfl)) rfl)) (fun _ _ => rfl)) (congrArg eI (Option.some.inj hsize4))) (fun _ _ => rfl) ?_
  refine j_bind fun asked5 hasked5 => ?_
  refine j_setF (i := 4) ⟨nd__law_asked_pairs, rfl, .inl rfl, .inr rfl⟩ (FJ.of (FJ.of (ds' := List.map (eP2 eI eI) [((0 : Int), (size4 - (1 : Int))), ((0 : Int), size4), ((size4 - (1 : Int)), (0 : Int)), (((0 : Int) - (1 : Int)), (0 : Int)), ((100000000000000000000 : Int), (100000000000000000000 : Int)), ((0 : Int), (0 : Int)), (((0 : Int) - (2 : Int)), ((0 : Int) - (1 : Int)))]) (f_lst (a_cons (EJ.of (d' := ((eP2 eI eI) ((0 : Int), (size4 - (1 : Int))))) (e_tup (a_cons e_int (a_cons (e_sub (e_var (i := 3) rfl (.inl rfl) rfl) e_int) a_nil (fun _ _ => rfl)) (fun _ _ => rfl)) (len_le (n := 2) rfl (by decide))) rfl) (a_cons (EJ.of (d' := ((eP2 eI eI) ((0 : Int), size4))) (e_tup (a_cons e_int (a_cons (e_var (i := 3) rfl (.inl rfl) rfl) a_nil (fun _ _ => rfl)) (fun _ _ => rfl)) (len_le (n := 2) rfl (by decide))) rfl) (a_cons (EJ.of (d' := ((eP2 eI eI) ((size4 - (1 : Int)), (0 : Int)))) (e_tup (a_cons (e_sub (e_var (i := 3) rfl (.inl rfl) rfl) e_int) (a_cons e_int a_nil (fun _ _ => rfl)) (fun _ _ => rfl)) (len_le (n := 2) rfl (by decide))) rfl) (a_cons (EJ.of (d' := ((eP2 eI eI) (((0 : Int) - (1 : Int)), (0 : Int)))) (e_tup (a_cons (e_sub e_int e_int) (a_cons e_int a_nil (fun _ _ => rfl)) (fun _ _ => rfl)) (len_le (n := 2) rfl (by decide))) rfl) (a_cons (EJ.of (d' := ((eP2 eI eI) ((100000000000000000000 : Int), (100000000000000000000 : Int)))) (e_tup (a_cons (EJ.of (d' := .int 100000000000000000000) (e_pow e_int e_int ⟨by decide, by decide, by decide⟩) rfl) (a_cons (EJ.of (d' := .int 100000000000000000000) (e_pow e_int e_int ⟨by decide, by decide, by decide⟩) rfl) a_nil (fun _ _ => rfl)) (fun _ _ => rfl)) (len_le (n := 2) rfl (by decide))) rfl) (a_cons (EJ.of (d' := ((eP2 eI eI) ((0 : Int), (0 : Int)))) (e_tup (a_cons e_int (a_cons e_int a_nil (fun _ _ => rfl)) (fun _ _ => rfl)) (len_le (n := 2) rfl (by decide))) rfl) (a_cons (EJ.of (d' := ((eP2 eI eI) (((0 : Int) - (2 : Int)), ((0 : Int) - (1 : Int))))) (e_tup (a_cons (e_sub e_int e_int) (a_cons (e_sub e_int e_int) a_nil (fun _ _ => rfl)) (fun _ _ => rfl)) (len_le (n := 2) rfl (by decide))) rfl) a_nil (fun _ _ => rfl)) (fun _ _ => rfl)) (fun _ _ => rfl)) (fun _ _ => rfl)) (fun _ _ => rfl)) (fun _ _ => rfl)) (fun _ _ => rfl)) (len_le (n := 7) rfl (by decide))) rfl) (congrArg (List.map (eP2 eI eI)) (Option.some.inj hasked5))) (fun _ _ => rfl) ?_
  refine j_bind fun r6 hr6 => ?_
  refine j_to (γ2 := [.sh ((eP2 eI eI) larder1), .sh ((eT (eP2 eI eI)) days2), .sh ((eL eI) draws3), .sh (eI size4), .ow (.list (List.map (eP2 eI eI) asked5)), .un, .un, .un]) rfl ?_
  refine j_for (enc := eI) (xs := r6) (γ0 := fun (s7 : ((List (Int × Int)))) => [.sh ((eP2 eI eI) larder1), .sh ((eT (eP2 eI eI)) days2), .sh ((eL eI) draws3), .sh (eI size4), .ow (.list (List.map (eP2 eI eI) s7)), .un, .un, .un]) (t0 := (asked5)) (i_range1O rfl C.b_range e_int (fun _ _ => rfl) hr6) (⟨rfl, ⟨rfl, ⟨rfl, ⟨rfl, ⟨rfl, trivial⟩⟩⟩⟩⟩) (fun s7 x8 hx8 => ⟨_, _, (g_name (i := 5) ⟨nd__law_asked_pairs, rfl, .inl rfl, .inr rfl⟩), ?_⟩) (fun s7 => ?_) (fun _ _ => rfl)
  · refine j_bind fun t9 ht9 => ?_
    refine j_bind fun t10 ht10 => ?_
    refine j_bind fun t11 ht11 => ?_
    refine j_bind fun t12 ht12 => ?_
    refine j_bind fun asked13 hasked13 => ?_
    refine j_appO (j := 4) (enc := (eP2 eI eI)) (xs := s7) (zs := asked13) rfl (.inl rfl) rfl (EJ.of (d' := ((eP2 eI eI) (t10, t12))) (e_tup (a_cons (e_modO (e_int1 rfl C.b_int (e_ixT (enc := eI) (xs := draws3) (EJ.ql (e_var (i := 2) rfl (.inl rfl) rfl)) (e_var (i := 5) rfl (.inl rfl) rfl) ht9 (fun _ _ => rfl)) (fun _ _ => rfl)) (e_add (e_var (i := 3) rfl (.inl rfl) rfl) e_int) ht10) (a_cons (e_modO (e_fdiv (e_int1 rfl C.b_int (e_ixT (enc := eI) (xs := draws3) (EJ.ql (e_var (i := 2) rfl (.inl rfl) rfl)) (e_var (i := 5) rfl (.inl rfl) rfl) ht11 (fun _ _ => rfl)) (fun _ _ => rfl)) e_int ⟨by decide, by decide⟩) (e_add (e_var (i := 3) rfl (.inl rfl) rfl) e_int) ht12) a_nil (fun _ _ => rfl)) (fun _ _ => rfl)) (len_le (n := 2) rfl (by decide))) rfl) hasked13 (fun _ _ => rfl) (by decide) (by decide) (fun _ => rfl) rfl ?_
    refine j_to (γ2 := [.sh ((eP2 eI eI) larder1), .sh ((eT (eP2 eI eI)) days2), .sh ((eL eI) draws3), .sh (eI size4), .ow (.list (List.map (eP2 eI eI) asked13)), .sh (eI x8), .un, .un]) rfl ?_
    exact j_nil (⟨rfl, ⟨rfl, ⟨rfl, ⟨rfl, ⟨rfl, trivial⟩⟩⟩⟩⟩)
  · refine j_bind fun l18 hl18 => ?_
    exact j_ret (e_all (bs := l18) rfl C.b_all (FJ.q (f_lc (own := [("a", 6), ("b", 7)]) (enc := (eP2 eI eI)) (encB := eB) (xs := s7) (f := (fun (x14 : (Int × Int)) => ((m_is_lack larder1 days2 x14.1 x14.2).bind fun t15 => ((m__law_lack larder1 days2 x14.1 x14.2).bind fun t16 => ((m__law_is (eB t15) (eB t16)).bind fun t17 => (some (some t17))))))) (i_own (q_own (i := 4) (ds := List.map (eP2 eI eI) s7) rfl (.inl rfl) rfl)) (fun x14 _ => (cb_bind fun t15 ht15 => (cb_bind fun t16 ht16 => (cb_bind fun t17 ht17 => (cb0T (y := t17) (g_tup (gs_cons (g_name (i := 6) ⟨nd__law_asked_pairs, rfl, .inl rfl, .inr rfl⟩) (gs_cons (g_name (i := 7) ⟨nd__law_asked_pairs, rfl, .inl rfl, .inr rfl⟩) gs_nil (fun _ _ => rfl)) (fun _ _ => rfl)) (fun _ => rfl) (fun _ => rfl)) (by decide) (EJ.of (d' := eB t17) (e_callK (ok__law_is C) (Nat.le_of_ble_eq_true rfl) rfl (a_cons (EJ.of (d' := eB t15) (e_callK (ok_is_lack C) (Nat.le_of_ble_eq_true rfl) rfl (a_cons (e_var (i := 0) rfl (.inr (.inl rfl)) rfl) (a_cons (e_var (i := 1) rfl (.inr (.inl rfl)) rfl) (a_cons (e_var (i := 6) rfl (.inl rfl) rfl) (a_cons (e_var (i := 7) rfl (.inl rfl) rfl) a_nil (fun _ _ => rfl)) (fun _ _ => rfl)) (fun _ _ => rfl)) (fun _ _ => rfl)) ⟨larder1, days2, x14.1, x14.2, t15, rfl, ht15, rfl⟩ rfl (fun _ _ => rfl) (fun _ => rfl) (by decide)) rfl) (a_cons (EJ.of (d' := eB t16) (e_callK (ok__law_lack C) (Nat.le_of_ble_eq_true rfl) rfl (a_cons (e_var (i := 0) rfl (.inr (.inl rfl)) rfl) (a_cons (e_var (i := 1) rfl (.inr (.inl rfl)) rfl) (a_cons (e_var (i := 6) rfl (.inl rfl) rfl) (a_cons (e_var (i := 7) rfl (.inl rfl) rfl) a_nil (fun _ _ => rfl)) (fun _ _ => rfl)) (fun _ _ => rfl)) (fun _ _ => rfl)) ⟨larder1, days2, x14.1, x14.2, t16, rfl, ht16, rfl⟩ rfl (fun _ _ => rfl) (fun _ => rfl) (by decide)) rfl) a_nil (fun _ _ => rfl)) (fun _ _ => rfl)) ⟨(eB t15), (eB t16), t17, rfl, ht17, rfl⟩ rfl (fun _ _ => rfl) (fun _ => rfl) (by decide)) rfl)))))) hl18 nd__law_asked_pairs rfl (by decide) (fun _ _ => rfl))) (fun _ _ => rfl)) rfl
theorem ok__law_asked_pairs (C : Gl75 K mg) : Known P w K mg base tabs 9 "_law_asked_pairs" 3 R__law_asked_pairs := known_of (k := 8) C.d__law_asked_pairs sc__law_asked_pairs fun cdv B F0 ds r _ hr => by
  obtain ⟨larder1, days2, draws3, y, rfl, hy, rfl⟩ := hr
  exact (j__law_asked_pairs C cdv B F0 larder1 days2 draws3).body hy
def R__law_great (ds : List PyData) (r : PyData) : Prop := ∃ (script1 : (List Int)), ∃ y, ds = [(eL eI) script1] ∧ m__law_great script1 = some y ∧ r = eB y
theorem j__law_great (C : Gl75 K mg) (cdv : Value) (B F0 : Hp) (script1 : (List Int)) : J (Stat.of P w K mg base ["script", "draws", "room", "larder", "days", "pairs", "loads", "at", "stock", "less", "rest", "most", "need", "day", "one"] (defScope s__law_great) 9 tabs cdv B F0) [.sh ((eL eI) script1), .un, .un, .un, .un, .un, .un, .un, .un, .un, .un, .un, .un, .un, .un] (defBody s__law_great) (pT eB) (m__law_great script1) := by
  unfold m__law_great
  refine j_bind fun t2 ht2 => ?_
  refine j_bind fun draws4 hdraws4 => ?_
  refine j_set (i := 1) ⟨nd__law_great, rfl, .inr rfl, .inl rfl⟩ (EJ.of (d' := (eL eI) draws4) (e_callK (ok__law_draws C) (Nat.le_of_ble_eq_true rfl) rfl (a_cons (EJ.of (d' := eI t2) (e_callK (ok__law_cell C) (Nat.le_of_ble_eq_true rfl) rfl (a_cons (e_var (i := 0) rfl (.inl rfl) rfl) (a_cons e_int a_nil (fun _ _ => rfl)) (fun _ _ => rfl)) ⟨script1, (3 : Int), t2, rfl, ht2, rfl⟩ rfl (fun _ _ => rfl) (fun _ => rfl) (by decide)) rfl) (a_cons e_int a_nil (fun _ _ => rfl)) (fun _ _ => rfl)) ⟨t2, (40 : Int), draws4, rfl, hdraws4, rfl⟩ rfl (fun _ _ => rfl) (fun _ => rfl) (by decide)) rfl) (fun _ _ => rfl) ?_
  refine j_bind fun t5 ht5 => ?_
  refine j_bind fun room6 hroom6 => ?_
  refine j_set (i := 2) ⟨nd__law_great, rfl, .inl rfl, .inr rfl⟩ (EJ.of (e_mod (e_int1 rfl C.b_int (e_ixT (enc := eI) (xs := draws4) (EJ.ql (e_var (i := 1) rfl (.inr (.inl rfl)) rfl)) e_int ht5 (fun _ _ => rfl)) (fun _ _ => rfl)) e_int (by decide)) (congrArg eI (Option.some.inj hroom6))) (fun _ _ => rfl) ?_
  refine j_bind fun t7 ht7 => ?_
  refine j_bind fun t8 ht8 => ?_
  refine j_bind fun larder9 hlarder9 => ?_
  refine j_set (i := 3) ⟨nd__law_great, rfl, .inl rfl, .inr rfl⟩ (EJ.of (EJ.of (d' := ((eP2 eI eI) (room6, t8))) (e_tup (a_cons (e_var (i := 2) rfl (.inl rfl) rfl) (a_cons (e_modO (e_int1 rfl C.b_int (e_ixT (enc := eI) (xs := draws4) (EJ.ql (e_var (i := 1) rfl (.inr (.inl rfl)) rfl)) e_int ht7 (fun _ _ => rfl)) (fun _ _ => rfl)) (e_add (e_var (i := 2) rfl (.inl rfl) rfl) e_int) ht8) a_nil (fun _ _ => rfl)) (fun _ _ => rfl)) (len_le (n := 2) rfl (by decide))) rfl) (congrArg (eP2 eI eI) (Option.some.inj hlarder9))) (fun _ _ => rfl) ?_
  refine j_bind fun t10 ht10 => ?_
  refine j_bind fun r11 hr11 => ?_
  refine j_bind fun days16 hdays16 => ?_
  refine j_set (i := 4) ⟨nd__law_great, rfl, .inl rfl, .inr rfl⟩ (e_tuple (k := .l) rfl C.b_tuple (FJ.q (f_lc (own := [("at", 7)]) (enc := eI) (encB := (eP2 eI eI)) (xs := r11) (f := (fun (x12 : Int) => ((atI draws4 ((2 : Int) + x12)).bind fun t13 => ((atI draws4 ((12 : Int) + x12)).bind fun t14 => (some (some ((t13 % (101 : Int)), (t14 % (90 : Int))))))))) (IW.x (i_range1O rfl C.b_range (e_mod (e_int1 rfl C.b_int (e_ixT (enc := eI) (xs := draws4) (EJ.ql (e_var (i := 1) rfl (.inr (.inl rfl)) rfl)) e_int ht10 (fun _ _ => rfl)) (fun _ _ => rfl)) e_int (by decide)) (fun _ _ => rfl) hr11)) (fun x12 _ => (cb_bind fun t13 ht13 => (cb_bind fun t14 ht14 => (cb0T (y := ((t13 % (101 : Int)), (t14 % (90 : Int)))) (g_name (i := 7) ⟨nd__law_great, rfl, .inl rfl, .inr rfl⟩) (by decide) (EJ.of (d' := ((eP2 eI eI) ((t13 % (101 : Int)), (t14 % (90 : Int))))) (e_tup (a_cons (e_mod (e_int1 rfl C.b_int (e_ixT (enc := eI) (xs := draws4) (EJ.ql (e_var (i := 1) rfl (.inr (.inl rfl)) rfl)) (e_add e_int (e_var (i := 7) rfl (.inl rfl) rfl)) ht13 (fun _ _ => rfl)) (fun _ _ => rfl)) e_int (by decide)) (a_cons (e_mod (e_int1 rfl C.b_int (e_ixT (enc := eI) (xs := draws4) (EJ.ql (e_var (i := 1) rfl (.inr (.inl rfl)) rfl)) (e_add e_int (e_var (i := 7) rfl (.inl rfl) rfl)) ht14 (fun _ _ => rfl)) (fun _ _ => rfl)) e_int (by decide)) a_nil (fun _ _ => rfl)) (fun _ _ => rfl)) (len_le (n := 2) rfl (by decide))) rfl))))) hdays16 nd__law_great rfl (by decide) (fun _ _ => rfl))) (fun _ _ => rfl)) (fun _ _ => rfl) ?_
  refine j_bind fun t17 ht17 => ?_
  refine j_ifJ (γj := fun (j22 : ((List (Int × Int)))) => [.un, .sh ((eL eI) draws4), .un, .sh ((eP2 eI eI) larder9), .sh ((eT (eP2 eI eI)) j22), .un, .un, .un, .un, .un, .un, .un, .un, .un, .un]) (t_cmp (c_eqI (e_mod (e_int1 rfl C.b_int (e_ixT (enc := eI) (xs := draws4) (EJ.ql (e_var (i := 1) rfl (.inr (.inl rfl)) rfl)) e_int ht17 (fun _ _ => rfl)) (fun _ _ => rfl)) e_int (by decide)) e_int) (nomark _)) (fun hc => ?_) (fun hc => ?_) (fun j22 => ?_)
  · refine j_bind fun days24 hdays24 => ?_
    refine j_set (i := 4) ⟨nd__law_great, rfl, .inl rfl, .inr rfl⟩ (EJ.of (e_tuple (k := .l) rfl C.b_tuple (FJ.q (f_lc (own := [("most", 11), ("need", 12)]) (enc := (eP2 eI eI)) (encB := (eP2 eI eI)) (xs := days16) (f := (fun (x23 : (Int × Int)) => some (some ((x23.1 + (25 : Int)), (min x23.2 (x23.1 + (20 : Int))))))) (IW.x (i_tup (e_var (i := 4) rfl (.inl rfl) rfl))) (fun x23 _ => cb0T (y := ((x23.1 + (25 : Int)), (min x23.2 (x23.1 + (20 : Int))))) (g_tup (gs_cons (g_name (i := 11) ⟨nd__law_great, rfl, .inl rfl, .inr rfl⟩) (gs_cons (g_name (i := 12) ⟨nd__law_great, rfl, .inl rfl, .inr rfl⟩) gs_nil (fun _ _ => rfl)) (fun _ _ => rfl)) (fun _ => rfl) (fun _ => rfl)) (by decide) (EJ.of (d' := ((eP2 eI eI) ((x23.1 + (25 : Int)), (min x23.2 (x23.1 + (20 : Int)))))) (e_tup (a_cons (e_add (e_var (i := 11) rfl (.inl rfl) rfl) e_int) (a_cons (e_min2 rfl C.b_min (e_var (i := 12) rfl (.inl rfl) rfl) (e_add (e_var (i := 11) rfl (.inl rfl) rfl) e_int) (fun _ _ => rfl) (fun _ _ => rfl) (fun _ => rfl)) a_nil (fun _ _ => rfl)) (fun _ _ => rfl)) (len_le (n := 2) rfl (by decide))) rfl)) (compM_map _) nd__law_great rfl (by decide) (fun _ _ => rfl))) (fun _ _ => rfl)) (congrArg (eT (eP2 eI eI)) (Option.some.inj hdays24))) (fun _ _ => rfl) ?_
    refine j_bind fun days26 hdays26 => ?_
    refine j_set (i := 4) ⟨nd__law_great, rfl, .inl rfl, .inr rfl⟩ (EJ.of (e_tuple (k := .l) rfl C.b_tuple (FJ.q (f_lc (own := [("most", 11), ("need", 12)]) (enc := (eP2 eI eI)) (encB := (eP2 eI eI)) (xs := days24) (f := (fun (x25 : (Int × Int)) => some (some ((min x25.1 (100 : Int)), x25.2)))) (IW.x (i_tup (e_var (i := 4) rfl (.inl rfl) rfl))) (fun x25 _ => cb0T (y := ((min x25.1 (100 : Int)), x25.2)) (g_tup (gs_cons (g_name (i := 11) ⟨nd__law_great, rfl, .inl rfl, .inr rfl⟩) (gs_cons (g_name (i := 12) ⟨nd__law_great, rfl, .inl rfl, .inr rfl⟩) gs_nil (fun _ _ => rfl)) (fun _ _ => rfl)) (fun _ => rfl) (fun _ => rfl)) (by decide) (EJ.of (d' := ((eP2 eI eI) ((min x25.1 (100 : Int)), x25.2))) (e_tup (a_cons (e_min2 rfl C.b_min (e_var (i := 11) rfl (.inl rfl) rfl) e_int (fun _ _ => rfl) (fun _ _ => rfl) (fun _ => rfl)) (a_cons (e_var (i := 12) rfl (.inl rfl) rfl) a_nil (fun _ _ => rfl)) (fun _ _ => rfl)) (len_le (n := 2) rfl (by decide))) rfl)) (compM_map _) nd__law_great rfl (by decide) (fun _ _ => rfl))) (fun _ _ => rfl)) (congrArg (eT (eP2 eI eI)) (Option.some.inj hdays26))) (fun _ _ => rfl) ?_
    refine j_to (γ2 := [.sh ((eL eI) script1), .sh ((eL eI) draws4), .sh (eI room6), .sh ((eP2 eI eI) larder9), .sh ((eT (eP2 eI eI)) days26), .un, .un, .un, .un, .un, .un, .un, .un, .un, .un]) rfl ?_
    exact j_nil (⟨rfl, ⟨rfl, ⟨rfl, trivial⟩⟩⟩)
  · refine j_to (γ2 := [.sh ((eL eI) script1), .sh ((eL eI) draws4), .sh (eI room6), .sh ((eP2 eI eI) larder9), .sh ((eT (eP2 eI eI)) days16), .un, .un, .un, .un, .un, .un, .un, .un, .un, .un]) rfl ?_
    exact j_nil (⟨rfl, ⟨rfl, ⟨rfl, trivial⟩⟩⟩)
  · refine j_bind fun pairs28 hpairs28 => ?_
    refine j_set (i := 5) ⟨nd__law_great, rfl, .inl rfl, .inr rfl⟩ (EJ.of (d' := (eL (eP2 eI eI)) pairs28) (e_callK (ok__law_lacks C) (Nat.le_of_ble_eq_true rfl) rfl (a_cons (e_var (i := 3) rfl (.inl rfl) rfl) (a_cons (e_var (i := 4) rfl (.inl rfl) rfl) a_nil (fun _ _ => rfl)) (fun _ _ => rfl)) ⟨larder9, j22, pairs28, rfl, hpairs28, rfl⟩ rfl (fun _ _ => rfl) (fun _ => rfl) (by decide)) rfl) (fun _ _ => rfl) ?_
    refine j_bind fun t29 ht29 => ?_
    refine j_bind fun t31 ht31 => ?_
    refine j_bind fun t32 ht32 => ?_
    refine j_ifR (t_not (t_val (EJ.of (d' := eB t32) (e_callK (ok__law_is C) (Nat.le_of_ble_eq_true rfl) rfl (a_cons (EJ.of (d' := (eO (eP2 eI eI)) t29) (e_callK (ok_told_lack C) (Nat.le_of_ble_eq_true rfl) rfl (a_cons (e_var (i := 3) rfl (.inl rfl) rfl) (a_cons (e_var (i := 4) rfl (.inl rfl) rfl) a_nil (fun _ _ => rfl)) (fun _ _ => rfl)) ⟨larder9, j22, t29, rfl, ht29, rfl⟩ rfl (fun _ _ => rfl) (fun _ => rfl) (by decide)) rfl) (a_cons (EO.elim (eo_if (encB := (eO (eP2 eI eI))) (t_cmp (c_gt (e_lenT (enc := (eP2 eI eI)) (xs := pairs28) rfl C.b_len (EJ.ql (e_var (i := 5) rfl (.inl rfl) rfl)) (fun _ _ => rfl)) e_int) (nomark _)) (fun _ => (eo_bind fun t30 ht30 => (eo_some (encB := (eO (eP2 eI eI))) (EJ.into (enc := (eP2 eI eI)) (e_ixT (enc := (eP2 eI eI)) (xs := pairs28) (EJ.ql (e_var (i := 5) rfl (.inl rfl) rfl)) e_int ht30 (fun _ _ => rfl)))))) (fun _ => (eo_some (encB := (eO (eP2 eI eI))) (EJ.of (d' := (eO (eP2 eI eI)) none) e_non rfl)))) ht31) a_nil (fun _ _ => rfl)) (fun _ _ => rfl)) ⟨((eO (eP2 eI eI)) t29), ((eO (eP2 eI eI)) t31), t32, rfl, ht32, rfl⟩ rfl (fun _ _ => rfl) (fun _ => rfl) (by decide)) rfl) (fun _ _ => rfl))) (fun hc => ?_) (fun hc => ?_)
    · exact j_ret e_bl rfl
    · refine j_bind fun t33 ht33 => ?_
      refine j_ifR (t_not (t_val (EJ.of (d' := eB t33) (e_callK (ok__law_asked_pairs C) (Nat.le_of_ble_eq_true rfl) rfl (a_cons (e_var (i := 3) rfl (.inl rfl) rfl) (a_cons (e_var (i := 4) rfl (.inl rfl) rfl) (a_cons (FJ.ej (f_slT (enc := eI) (EJ.ql (e_var (i := 1) rfl (.inr (.inl rfl)) rfl)) (o_some e_int) (o_some e_int))) a_nil (fun _ _ => rfl)) (fun _ _ => rfl)) (fun _ _ => rfl)) ⟨larder9, j22, (cut draws4 (some (24 : Int)) (some (30 : Int))), t33, rfl, ht33, rfl⟩ rfl (fun _ _ => rfl) (fun _ => rfl) (by decide)) rfl) (fun _ _ => rfl))) (fun hc => ?_) (fun hc => ?_)
      · exact j_ret e_bl rfl
      · refine j_bind fun loads35 hloads35 => ?_
        refine j_set (i := 6) ⟨nd__law_great, rfl, .inl rfl, .inr rfl⟩ (EJ.of (d' := (eO (eT eI)) loads35) (e_callK (ok_told_loads C) (Nat.le_of_ble_eq_true rfl) rfl (a_cons (e_var (i := 3) rfl (.inl rfl) rfl) (a_cons (e_var (i := 4) rfl (.inl rfl) rfl) a_nil (fun _ _ => rfl)) (fun _ _ => rfl)) ⟨larder9, j22, loads35, rfl, hloads35, rfl⟩ rfl (fun _ _ => rfl) (fun _ => rfl) (by decide)) rfl) (fun _ _ => rfl) ?_
        refine j_ifR (t_cmp (c_gt (e_lenT (enc := (eP2 eI eI)) (xs := pairs28) rfl C.b_len (EJ.ql (e_var (i := 5) rfl (.inl rfl) rfl)) (fun _ _ => rfl)) e_int) (nomark _)) (fun hc => ?_) (fun hc => ?_)
        · exact j_ret (e_cmp (c_isN (e_var (i := 6) rfl (.inl rfl) rfl)) (nomark _)) rfl
        · refine j_bind fun t39 ht39 => ?_
          refine j_ifR (TOp.elim (to_w (wo_or (to_bind fun t36 ht36 => (to_some (t_not (t_val (EJ.of (d' := eB t36) (e_callK (ok__law_is_integers C) (Nat.le_of_ble_eq_true rfl) rfl (a_cons (e_var (i := 6) rfl (.inl rfl) rfl) a_nil (fun _ _ => rfl)) ⟨loads35, t36, rfl, ht36, rfl⟩ rfl (fun _ _ => rfl) (fun _ => rfl) (by decide)) rfl) (fun _ _ => rfl))))) fun _ => (wo_or1 (to_bind fun t37 ht37 => (to_bind fun t38 ht38 => (to_some (t_not (t_val (EJ.of (d' := eB t38) (e_callK (ok__law_last C) (Nat.le_of_ble_eq_true rfl) rfl (a_cons (e_var (i := 3) rfl (.inl rfl) rfl) (a_cons (e_var (i := 4) rfl (.inl rfl) rfl) (a_cons (EJ.some (enc := (eT eI)) (e_var (i := 6) rfl (.inl rfl) rfl) ht37) a_nil (fun _ _ => rfl)) (fun _ _ => rfl)) (fun _ _ => rfl)) ⟨larder9, j22, t37, t38, rfl, ht38, rfl⟩ rfl (fun _ _ => rfl) (fun _ => rfl) (by decide)) rfl) (fun _ _ => rfl))))))))) ht39) (fun hc => ?_) (fun hc => ?_)
          · exact j_ret e_bl rfl
          · refine j_bind fun t40 ht40 => ?_
            refine j_ifR (t_cmp (c_neI (e_sumT (ns := t40) rfl C.b_sum (EJ.some (enc := (eT eI)) (e_var (i := 6) rfl (.inl rfl) rfl) ht40) (fun _ _ => rfl)) (e_max2 rfl C.b_max e_int (e_sub (e_sum (ns := (List.map (fun (x41 : (Int × Int)) => x41.2) j22)) rfl C.b_sum (FJ.q (f_lc (own := [("day", 13)]) (enc := (eP2 eI eI)) (encB := eI) (xs := j22) (f := (fun (x41 : (Int × Int)) => some (some x41.2))) (IW.x (i_tup (e_var (i := 4) rfl (.inl rfl) rfl))) (fun x41 _ => cb0T (y := x41.2) (g_name (i := 13) ⟨nd__law_great, rfl, .inl rfl, .inr rfl⟩) (by decide) (e_ixC (i := 1) (e_var (i := 13) rfl (.inl rfl) rfl) rfl)) (compM_map _) nd__law_great rfl (by decide) (fun _ _ => rfl))) (fun _ _ => rfl)) (e_ixC (i := 1) (e_var (i := 3) rfl (.inl rfl) rfl) rfl)) (fun _ _ => rfl) (fun _ _ => rfl) (fun _ => rfl))) (nomark _)) (fun hc => ?_) (fun hc => ?_)
            · exact j_ret e_bl rfl
            · refine j_bind fun r42 hr42 => ?_
              refine j_to (γ2 := [.un, .sh ((eL eI) draws4), .un, .sh ((eP2 eI eI) larder9), .sh ((eT (eP2 eI eI)) j22), .sh ((eL (eP2 eI eI)) pairs28), .sh ((eO (eT eI)) loads35), .un, .un, .un, .un, .un, .un, .un, .un]) rfl ?_
              refine j_forR (enc := eI) (xs := r42) (encR := eB) (γ0 := fun (s43 : Unit) => [.un, .un, .un, .sh ((eP2 eI eI) larder9), .sh ((eT (eP2 eI eI)) j22), .un, .sh ((eO (eT eI)) loads35), .un, .un, .un, .un, .un, .un, .un, .un]) (t0 := ()) (i_range1O rfl C.b_range (e_lenT (enc := (eP2 eI eI)) (xs := j22) rfl C.b_len (EJ.qt (e_var (i := 4) rfl (.inl rfl) rfl)) (fun _ _ => rfl)) (fun _ _ => rfl) hr42) (⟨rfl, ⟨rfl, ⟨rfl, trivial⟩⟩⟩) (fun s43 x44 hx44 => ⟨_, _, (g_name (i := 7) ⟨nd__law_great, rfl, .inl rfl, .inr rfl⟩), ?_⟩) (fun _ => rfl) (fun s43 => ?_) (fun _ _ => rfl)
              · refine j_bind fun t45 ht45 => ?_
                refine j_bind fun t46 ht46 => ?_
                refine j_ifM (encR := eB) (γj := fun (j58 : Unit) => [.un, .un, .un, .sh ((eP2 eI eI) larder9), .sh ((eT (eP2 eI eI)) j22), .un, .sh ((eO (eT eI)) loads35), .un, .un, .un, .un, .un, .un, .un, .un]) (t_cmp (c_gt (e_ixT (enc := eI) (xs := t45) (EJ.qt (EJ.some (enc := (eT eI)) (e_var (i := 6) rfl (.inl rfl) rfl) ht45)) (e_var (i := 7) rfl (.inl rfl) rfl) ht46 (fun _ _ => rfl)) e_int) (nomark _)) (fun hc => ?_) (fun hc => ?_) (fun _ => rfl) (fun j58 => ?_)
                · refine j_bind fun t59 ht59 => ?_
                  refine j_bind fun stock61 hstock61 => ?_
                  refine j_set (i := 8) ⟨nd__law_great, rfl, .inl rfl, .inr rfl⟩ (EJ.of (e_sub (e_add (e_ixC (i := 1) (e_var (i := 3) rfl (.inl rfl) rfl) rfl) (e_sumT (ns := (cut t59 none (some x44))) rfl C.b_sum (e_slTT (enc := eI) (EJ.some (enc := (eT eI)) (e_var (i := 6) rfl (.inl rfl) rfl) ht59) o_none (o_some (e_var (i := 7) rfl (.inl rfl) rfl))) (fun _ _ => rfl))) (e_sum (ns := (List.map (fun (x60 : (Int × Int)) => x60.2) (cut j22 none (some x44)))) rfl C.b_sum (FJ.q (f_lc (own := [("day", 13)]) (enc := (eP2 eI eI)) (encB := eI) (xs := (cut j22 none (some x44))) (f := (fun (x60 : (Int × Int)) => some (some x60.2))) (IW.x (i_tup (e_slTT (enc := (eP2 eI eI)) (e_var (i := 4) rfl (.inl rfl) rfl) o_none (o_some (e_var (i := 7) rfl (.inl rfl) rfl))))) (fun x60 _ => cb0T (y := x60.2) (g_name (i := 13) ⟨nd__law_great, rfl, .inl rfl, .inr rfl⟩) (by decide) (e_ixC (i := 1) (e_var (i := 13) rfl (.inl rfl) rfl) rfl)) (compM_map _) nd__law_great rfl (by decide) (fun _ _ => rfl))) (fun _ _ => rfl))) (congrArg eI (Option.some.inj hstock61))) (fun _ _ => rfl) ?_
                  refine j_bind fun t62 ht62 => ?_
                  refine j_bind fun t63 ht63 => ?_
                  refine j_bind fun t64 ht64 => ?_
                  refine j_bind fun less65 hless65 => ?_
                  refine j_set (i := 9) ⟨nd__law_great, rfl, .inl rfl, .inr rfl⟩ (EJ.of (e_sub (e_sub (e_add (e_var (i := 8) rfl (.inl rfl) rfl) (e_ixT (enc := eI) (xs := t62) (EJ.qt (EJ.some (enc := (eT eI)) (e_var (i := 6) rfl (.inl rfl) rfl) ht62)) (e_var (i := 7) rfl (.inl rfl) rfl) ht63 (fun _ _ => rfl))) e_int) (e_ixC (i := 1) (e_ixT (enc := (eP2 eI eI)) (xs := j22) (EJ.qt (e_var (i := 4) rfl (.inl rfl) rfl)) (e_var (i := 7) rfl (.inl rfl) rfl) ht64 (fun _ _ => rfl)) rfl)) (congrArg eI (Option.some.inj hless65))) (fun _ _ => rfl) ?_
                  refine j_bind fun rest66 hrest66 => ?_
                  refine j_set (i := 10) ⟨nd__law_great, rfl, .inl rfl, .inr rfl⟩ (EJ.of (EJ.of (d' := ((eP2 eI eI) (larder9.1, less65))) (e_tup (a_cons (e_ixC (i := 0) (e_var (i := 3) rfl (.inl rfl) rfl) rfl) (a_cons (e_var (i := 9) rfl (.inl rfl) rfl) a_nil (fun _ _ => rfl)) (fun _ _ => rfl)) (len_le (n := 2) rfl (by decide))) rfl) (congrArg (eP2 eI eI) (Option.some.inj hrest66))) (fun _ _ => rfl) ?_
                  refine j_bind fun t69 ht69 => ?_
                  refine j_ifR (TOp.elim (to_w (wo_and (to_some (t_cmp (c_ge (e_var (i := 9) rfl (.inl rfl) rfl) e_int) (nomark _))) fun _ => (wo_and1 (to_bind fun t67 ht67 => (to_some (t_cmp (c_eqI (e_lenT (enc := (eP2 eI eI)) (xs := (List.map (fun (x68 : (Int × Int)) => x68) (List.filter (fun (x68 : (Int × Int)) => (decide (x68.1 = (0 : Int)))) t67))) rfl C.b_len (FJ.q (f_lc (own := [("one", 14)]) (enc := (eP2 eI eI)) (encB := (eP2 eI eI)) (xs := t67) (f := (fun (x68 : (Int × Int)) => some (if (decide (x68.1 = (0 : Int))) = true then some x68 else none))) (IW.x (i_list (EJ.of (d' := (eL (eP2 eI eI)) t67) (e_callK (ok__law_lacks C) (Nat.le_of_ble_eq_true rfl) rfl (a_cons (e_var (i := 10) rfl (.inl rfl) rfl) (a_cons (e_slTT (enc := (eP2 eI eI)) (e_var (i := 4) rfl (.inl rfl) rfl) (o_some (e_add (e_var (i := 7) rfl (.inl rfl) rfl) e_int)) o_none) a_nil (fun _ _ => rfl)) (fun _ _ => rfl)) ⟨rest66, (cut j22 (some (x44 + (1 : Int))) none), t67, rfl, ht67, rfl⟩ rfl (fun _ _ => rfl) (fun _ => rfl) (by decide)) rfl))) (fun x68 _ => cb1T (k := (decide (x68.1 = (0 : Int)))) (y := x68) (g_name (i := 14) ⟨nd__law_great, rfl, .inl rfl, .inr rfl⟩) (by decide) (t_cmp (c_eqI (e_ixC (i := 0) (e_var (i := 14) rfl (.inl rfl) rfl) rfl) e_int) (nomark _)) (fun _ => (e_var (i := 14) rfl (.inl rfl) rfl))) (compM_tot _) nd__law_great rfl (by decide) (fun _ _ => rfl))) (fun _ _ => rfl)) e_int) (nomark _))))))) ht69) (fun hc => ?_) (fun hc => ?_)
                  · exact j_ret e_bl rfl
                  · refine j_to (γ2 := [.un, .un, .un, .sh ((eP2 eI eI) larder9), .sh ((eT (eP2 eI eI)) j22), .un, .sh ((eO (eT eI)) loads35), .sh (eI x44), .sh (eI stock61), .sh (eI less65), .sh ((eP2 eI eI) rest66), .un, .un, .un, .un]) rfl ?_
                    exact j_nil (⟨rfl, ⟨rfl, ⟨rfl, trivial⟩⟩⟩)
                · refine j_to (γ2 := [.un, .un, .un, .sh ((eP2 eI eI) larder9), .sh ((eT (eP2 eI eI)) j22), .un, .sh ((eO (eT eI)) loads35), .sh (eI x44), .un, .un, .un, .un, .un, .un, .un]) rfl ?_
                  exact j_nil (⟨rfl, ⟨rfl, ⟨rfl, trivial⟩⟩⟩)
                · refine j_to (γ2 := [.un, .un, .un, .sh ((eP2 eI eI) larder9), .sh ((eT (eP2 eI eI)) j22), .un, .sh ((eO (eT eI)) loads35), .un, .un, .un, .un, .un, .un, .un, .un]) rfl ?_
                  exact j_nil (⟨rfl, ⟨rfl, ⟨rfl, trivial⟩⟩⟩)
              · exact j_ret e_bl rfl
theorem ok__law_great (C : Gl75 K mg) : Known P w K mg base tabs 10 "_law_great" 1 R__law_great := known_of (k := 9) C.d__law_great sc__law_great fun cdv B F0 ds r _ hr => by
  obtain ⟨script1, y, rfl, hy, rfl⟩ := hr
  exact (j__law_great C cdv B F0 script1).body hy
def R_law (ds : List PyData) (r : PyData) : Prop := ∃ (script1 : (List Int)), ∃ y, ds = [(eL eI) script1] ∧ m_law script1 = some y ∧ r = eB y
theorem j_law (C : Gl75 K mg) (cdv : Value) (B F0 : Hp) (script1 : (List Int)) : J (Stat.of P w K mg base ["script", "turn", "draws", "room", "larder", "days", "at", "every", "pairs", "need", "base", "asked", "most", "day", "loads"] (defScope s_law) 10 tabs cdv B F0) [.sh ((eL eI) script1), .un, .un, .un, .un, .un, .un, .un, .un, .un, .un, .un, .un, .un, .un] (defBody s_law) (pT eB) (m_law script1) := by
  unfold m_law
  refine j_bind fun r2 hr2 => ?_
  refine j_to (γ2 := [.sh ((eL eI) script1), .un, .un, .un, .un, .un, .un, .un, .un, .un, .un, .un, .un, .un, .un]) rfl ?_
  refine j_forR (enc := eI) (xs := r2) (encR := eB) (γ0 := fun (s3 : Unit) => [.sh ((eL eI) script1), .un, .un, .un, .un, .un, .un, .un, .un, .un, .un, .un, .un, .un, .un]) (t0 := ()) (i_range1O rfl C.b_range e_int (fun _ _ => rfl) hr2) (⟨rfl, trivial⟩) (fun s3 x4 hx4 => ⟨_, _, (g_name (i := 1) ⟨nd_law, rfl, .inl rfl, .inr rfl⟩), ?_⟩) (fun _ => rfl) (fun s3 => ?_) (fun _ _ => rfl)
  · refine j_bind fun t5 ht5 => ?_
    refine j_bind fun draws7 hdraws7 => ?_
    refine j_set (i := 2) ⟨nd_law, rfl, .inl rfl, .inr rfl⟩ (EJ.of (d' := (eL eI) draws7) (e_callK (ok__law_draws C) (Nat.le_of_ble_eq_true rfl) rfl (a_cons (EJ.of (d' := eI t5) (e_callK (ok__law_cell C) (Nat.le_of_ble_eq_true rfl) rfl (a_cons (e_var (i := 0) rfl (.inl rfl) rfl) (a_cons (e_var (i := 1) rfl (.inl rfl) rfl) a_nil (fun _ _ => rfl)) (fun _ _ => rfl)) ⟨script1, x4, t5, rfl, ht5, rfl⟩ rfl (fun _ _ => rfl) (fun _ => rfl) (by decide)) rfl) (a_cons e_int a_nil (fun _ _ => rfl)) (fun _ _ => rfl)) ⟨t5, (50 : Int), draws7, rfl, hdraws7, rfl⟩ rfl (fun _ _ => rfl) (fun _ => rfl) (by decide)) rfl) (fun _ _ => rfl) ?_
    refine j_bind fun t8 ht8 => ?_
    refine j_bind fun room9 hroom9 => ?_
    refine j_set (i := 3) ⟨nd_law, rfl, .inl rfl, .inr rfl⟩ (EJ.of (e_mod (e_int1 rfl C.b_int (e_ixT (enc := eI) (xs := draws7) (EJ.ql (e_var (i := 2) rfl (.inl rfl) rfl)) e_int ht8 (fun _ _ => rfl)) (fun _ _ => rfl)) e_int (by decide)) (congrArg eI (Option.some.inj hroom9))) (fun _ _ => rfl) ?_
    refine j_bind fun t10 ht10 => ?_
    refine j_bind fun t11 ht11 => ?_
    refine j_bind fun larder12 hlarder12 => ?_
    refine j_set (i := 4) ⟨nd_law, rfl, .inl rfl, .inr rfl⟩ (EJ.of (EJ.of (d' := ((eP2 eI eI) (room9, t11))) (e_tup (a_cons (e_var (i := 3) rfl (.inl rfl) rfl) (a_cons (e_modO (e_int1 rfl C.b_int (e_ixT (enc := eI) (xs := draws7) (EJ.ql (e_var (i := 2) rfl (.inl rfl) rfl)) e_int ht10 (fun _ _ => rfl)) (fun _ _ => rfl)) (e_add (e_var (i := 3) rfl (.inl rfl) rfl) e_int) ht11) a_nil (fun _ _ => rfl)) (fun _ _ => rfl)) (len_le (n := 2) rfl (by decide))) rfl) (congrArg (eP2 eI eI) (Option.some.inj hlarder12))) (fun _ _ => rfl) ?_
    refine j_bind fun days13 hdays13 => ?_
    refine j_setF (i := 5) ⟨nd_law, rfl, .inl rfl, .inr rfl⟩ (FJ.of (FJ.of (ds' := List.map (eP2 eI eI) ([] : List (Int × Int))) (f_lst a_nil (len_le (n := 0) rfl (by decide))) rfl) (congrArg (List.map (eP2 eI eI)) (Option.some.inj hdays13))) (fun _ _ => rfl) ?_
    refine j_bind fun t14 ht14 => ?_
    refine j_bind fun r15 hr15 => ?_
    refine j_to (γ2 := [.sh ((eL eI) script1), .sh (eI x4), .sh ((eL eI) draws7), .sh (eI room9), .sh ((eP2 eI eI) larder12), .ow (.list (List.map (eP2 eI eI) days13)), .un, .un, .un, .un, .un, .un, .un, .un, .un]) rfl ?_
    refine j_for (enc := eI) (xs := r15) (γ0 := fun (s16 : ((List (Int × Int)))) => [.sh ((eL eI) script1), .sh (eI x4), .sh ((eL eI) draws7), .sh (eI room9), .sh ((eP2 eI eI) larder12), .ow (.list (List.map (eP2 eI eI) s16)), .un, .un, .un, .un, .un, .un, .un, .un, .un]) (t0 := (days13)) (i_range1O rfl C.b_range (e_mod (e_int1 rfl C.b_int (e_ixT (enc := eI) (xs := draws7) (EJ.ql (e_var (i := 2) rfl (.inl rfl) rfl)) e_int ht14 (fun _ _ => rfl)) (fun _ _ => rfl)) e_int (by decide)) (fun _ _ => rfl) hr15) (⟨rfl, ⟨rfl, ⟨rfl, ⟨rfl, ⟨rfl, ⟨rfl, trivial⟩⟩⟩⟩⟩⟩) (fun s16 x17 hx17 => ⟨_, _, (g_name (i := 6) ⟨nd_law, rfl, .inl rfl, .inr rfl⟩), ?_⟩) (fun s16 => ?_) (fun _ _ => rfl)
    · refine j_bind fun t18 ht18 => ?_
      refine j_bind fun t19 ht19 => ?_
      refine j_bind fun days20 hdays20 => ?_
      refine j_appO (j := 5) (enc := (eP2 eI eI)) (xs := s16) (zs := days20) rfl (.inl rfl) rfl (EJ.of (d' := ((eP2 eI eI) ((t18 % (4 : Int)), (t19 % (4 : Int))))) (e_tup (a_cons (e_mod (e_int1 rfl C.b_int (e_ixT (enc := eI) (xs := draws7) (EJ.ql (e_var (i := 2) rfl (.inl rfl) rfl)) (e_add e_int (e_var (i := 6) rfl (.inl rfl) rfl)) ht18 (fun _ _ => rfl)) (fun _ _ => rfl)) e_int (by decide)) (a_cons (e_mod (e_int1 rfl C.b_int (e_ixT (enc := eI) (xs := draws7) (EJ.ql (e_var (i := 2) rfl (.inl rfl) rfl)) (e_add e_int (e_var (i := 6) rfl (.inl rfl) rfl)) ht19 (fun _ _ => rfl)) (fun _ _ => rfl)) e_int (by decide)) a_nil (fun _ _ => rfl)) (fun _ _ => rfl)) (len_le (n := 2) rfl (by decide))) rfl) hdays20 (fun _ _ => rfl) (by decide) (by decide) (fun _ => rfl) rfl ?_
      refine j_to (γ2 := [.sh ((eL eI) script1), .sh (eI x4), .sh ((eL eI) draws7), .sh (eI room9), .sh ((eP2 eI eI) larder12), .ow (.list (List.map (eP2 eI eI) days20)), .sh (eI x17), .un, .un, .un, .un, .un, .un, .un, .un]) rfl ?_
      exact j_nil (⟨rfl, ⟨rfl, ⟨rfl, ⟨rfl, ⟨rfl, ⟨rfl, trivial⟩⟩⟩⟩⟩⟩)
    · refine j_ifJ (γj := fun (j23 : ((List (Int × Int)))) => [.sh ((eL eI) script1), .sh (eI x4), .sh ((eL eI) draws7), .sh (eI room9), .sh ((eP2 eI eI) larder12), .ow (.list (List.map (eP2 eI eI) j23)), .un, .un, .un, .un, .un, .un, .un, .un, .un]) (t_cmp (c_eqI (e_var (i := 1) rfl (.inl rfl) rfl) e_int) (nomark _)) (fun hc => ?_) (fun hc => ?_) (fun j23 => ?_)
      · refine j_bind fun days25 hdays25 => ?_
        refine j_setLc (i := 5) (own := [("most", 12), ("need", 9)]) (encA := (eP2 eI eI)) (encB := (eP2 eI eI)) (xs := s16) (f := (fun (x24 : (Int × Int)) => some (some (x24.1, (min x24.2 x24.1))))) (ys := days25) ⟨nd_law, rfl, .inl rfl, .inr rfl⟩ rfl (i_own (q_own (i := 5) (ds := List.map (eP2 eI eI) s16) rfl (.inl rfl) rfl)) (fun x24 _ => cb0T (y := (x24.1, (min x24.2 x24.1))) (g_tup (gs_cons (g_name (i := 12) ⟨nd_law, rfl, .inl rfl, .inr rfl⟩) (gs_cons (g_name (i := 9) ⟨nd_law, rfl, .inl rfl, .inr rfl⟩) gs_nil (fun _ _ => rfl)) (fun _ _ => rfl)) (fun _ => rfl) (fun _ => rfl)) (by decide) (EJ.of (d' := ((eP2 eI eI) (x24.1, (min x24.2 x24.1)))) (e_tup (a_cons (e_var (i := 12) rfl (.inl rfl) rfl) (a_cons (e_min2 rfl C.b_min (e_var (i := 9) rfl (.inl rfl) rfl) (e_var (i := 12) rfl (.inl rfl) rfl) (fun _ _ => rfl) (fun _ _ => rfl) (fun _ => rfl)) a_nil (fun _ _ => rfl)) (fun _ _ => rfl)) (len_le (n := 2) rfl (by decide))) rfl)) ((compM_map _).trans hdays25) rfl (by decide) (fun _ _ => rfl) rfl rfl rfl ?_
        refine j_to (γ2 := [.sh ((eL eI) script1), .sh (eI x4), .sh ((eL eI) draws7), .sh (eI room9), .sh ((eP2 eI eI) larder12), .ow (.list (List.map (eP2 eI eI) days25)), .un, .un, .un, .un, .un, .un, .un, .un, .un]) rfl ?_
        exact j_nil (⟨rfl, ⟨rfl, ⟨rfl, ⟨rfl, ⟨rfl, ⟨rfl, trivial⟩⟩⟩⟩⟩⟩)
      · refine j_to (γ2 := [.sh ((eL eI) script1), .sh (eI x4), .sh ((eL eI) draws7), .sh (eI room9), .sh ((eP2 eI eI) larder12), .ow (.list (List.map (eP2 eI eI) s16)), .un, .un, .un, .un, .un, .un, .un, .un, .un]) rfl ?_
        exact j_nil (⟨rfl, ⟨rfl, ⟨rfl, ⟨rfl, ⟨rfl, ⟨rfl, trivial⟩⟩⟩⟩⟩⟩)
      · refine j_ifJ (γj := fun (j28 : ((List (Int × Int)))) => [.sh ((eL eI) script1), .sh (eI x4), .sh ((eL eI) draws7), .un, .sh ((eP2 eI eI) larder12), .ow (.list (List.map (eP2 eI eI) j28)), .un, .un, .un, .un, .un, .un, .un, .un, .un]) (t_cmp (c_eqI (e_var (i := 1) rfl (.inl rfl) rfl) e_int) (nomark _)) (fun hc => ?_) (fun hc => ?_) (fun j28 => ?_)
        · refine j_bind fun days30 hdays30 => ?_
          refine j_setF (i := 5) ⟨nd_law, rfl, .inl rfl, .inr rfl⟩ (f_catO (enc := (eP2 eI eI)) (FJ.q (f_slT (enc := (eP2 eI eI)) (q_own (i := 5) (ds := List.map (eP2 eI eI) j23) rfl (.inl rfl) rfl) o_none (o_some e_int))) (FJ.q (FJ.of (ds' := List.map (eP2 eI eI) [((0 : Int), (room9 + (1 : Int)))]) (f_lst (a_cons (EJ.of (d' := ((eP2 eI eI) ((0 : Int), (room9 + (1 : Int))))) (e_tup (a_cons e_int (a_cons (e_add (e_var (i := 3) rfl (.inl rfl) rfl) e_int) a_nil (fun _ _ => rfl)) (fun _ _ => rfl)) (len_le (n := 2) rfl (by decide))) rfl) a_nil (fun _ _ => rfl)) (len_le (n := 1) rfl (by decide))) rfl)) hdays30) (fun _ _ => rfl) ?_
          refine j_to (γ2 := [.sh ((eL eI) script1), .sh (eI x4), .sh ((eL eI) draws7), .sh (eI room9), .sh ((eP2 eI eI) larder12), .ow (.list (List.map (eP2 eI eI) days30)), .un, .un, .un, .un, .un, .un, .un, .un, .un]) rfl ?_
          exact j_nil (⟨rfl, ⟨rfl, ⟨rfl, ⟨rfl, ⟨rfl, trivial⟩⟩⟩⟩⟩)
        · refine j_to (γ2 := [.sh ((eL eI) script1), .sh (eI x4), .sh ((eL eI) draws7), .sh (eI room9), .sh ((eP2 eI eI) larder12), .ow (.list (List.map (eP2 eI eI) j23)), .un, .un, .un, .un, .un, .un, .un, .un, .un]) rfl ?_
          exact j_nil (⟨rfl, ⟨rfl, ⟨rfl, ⟨rfl, ⟨rfl, trivial⟩⟩⟩⟩⟩)
        · refine j_bind fun days31 hdays31 => ?_
          refine j_set (i := 5) ⟨nd_law, rfl, .inl rfl, .inr rfl⟩ (EJ.of (e_tuple (k := .l) rfl C.b_tuple (q_own (i := 5) (ds := List.map (eP2 eI eI) j28) rfl (.inl rfl) rfl) (fun _ _ => rfl)) (congrArg (eT (eP2 eI eI)) (Option.some.inj hdays31))) (fun _ _ => rfl) ?_
          refine j_bind fun every33 hevery33 => ?_
          refine j_set (i := 7) ⟨nd_law, rfl, .inl rfl, .inr rfl⟩ (EJ.of (d' := (eL (eT eI)) every33) (e_callK (ok__law_every C) (Nat.le_of_ble_eq_true rfl) rfl (a_cons (e_var (i := 4) rfl (.inl rfl) rfl) (a_cons (e_var (i := 5) rfl (.inl rfl) rfl) a_nil (fun _ _ => rfl)) (fun _ _ => rfl)) ⟨larder12, days31, every33, rfl, hevery33, rfl⟩ rfl (fun _ _ => rfl) (fun _ => rfl) (by decide)) rfl) (fun _ _ => rfl) ?_
          refine j_bind fun pairs35 hpairs35 => ?_
          refine j_set (i := 8) ⟨nd_law, rfl, .inl rfl, .inr rfl⟩ (EJ.of (d' := (eL (eP2 eI eI)) pairs35) (e_callK (ok__law_lacks C) (Nat.le_of_ble_eq_true rfl) rfl (a_cons (e_var (i := 4) rfl (.inl rfl) rfl) (a_cons (e_var (i := 5) rfl (.inl rfl) rfl) a_nil (fun _ _ => rfl)) (fun _ _ => rfl)) ⟨larder12, days31, pairs35, rfl, hpairs35, rfl⟩ rfl (fun _ _ => rfl) (fun _ => rfl) (by decide)) rfl) (fun _ _ => rfl) ?_
          refine j_ifR (t_w (w_or (t_cmp (c_neB (e_cmp (c_gt (e_lenT (enc := (eT eI)) (xs := every33) rfl C.b_len (EJ.ql (e_var (i := 7) rfl (.inl rfl) rfl)) (fun _ _ => rfl)) e_int) (nomark _)) (e_cmp (c_eqI (e_lenT (enc := (eP2 eI eI)) (xs := pairs35) rfl C.b_len (EJ.ql (e_var (i := 8) rfl (.inl rfl) rfl)) (fun _ _ => rfl)) e_int) (nomark _))) (nomark _)) fun _ => (w_or (t_w (w_and (t_cmp (c_eqI (e_var (i := 1) rfl (.inl rfl) rfl) e_int) (nomark _)) fun _ => (w_and1 (t_cmp (c_eqI (e_lenT (enc := (eT eI)) (xs := every33) rfl C.b_len (EJ.ql (e_var (i := 7) rfl (.inl rfl) rfl)) (fun _ _ => rfl)) e_int) (nomark _))))) fun _ => (w_or1 (t_w (w_and (t_cmp (c_eqI (e_var (i := 1) rfl (.inl rfl) rfl) e_int) (nomark _)) fun _ => (w_and1 (t_cmp (c_gt (e_lenT (enc := (eT eI)) (xs := every33) rfl C.b_len (EJ.ql (e_var (i := 7) rfl (.inl rfl) rfl)) (fun _ _ => rfl)) e_int) (nomark _))))))))) (fun hc => ?_) (fun hc => ?_)
          · exact j_ret e_bl rfl
          · refine j_bind fun t36 ht36 => ?_
            refine j_bind fun t38 ht38 => ?_
            refine j_bind fun t39 ht39 => ?_
            refine j_ifR (t_not (t_val (EJ.of (d' := eB t39) (e_callK (ok__law_is C) (Nat.le_of_ble_eq_true rfl) rfl (a_cons (EJ.of (d' := (eO (eT eI)) t36) (e_callK (ok_told_loads C) (Nat.le_of_ble_eq_true rfl) rfl (a_cons (e_var (i := 4) rfl (.inl rfl) rfl) (a_cons (e_var (i := 5) rfl (.inl rfl) rfl) a_nil (fun _ _ => rfl)) (fun _ _ => rfl)) ⟨larder12, days31, t36, rfl, ht36, rfl⟩ rfl (fun _ _ => rfl) (fun _ => rfl) (by decide)) rfl) (a_cons (EO.elim (eo_if (encB := (eO (eT eI))) (t_cmp (c_gt (e_lenT (enc := (eT eI)) (xs := every33) rfl C.b_len (EJ.ql (e_var (i := 7) rfl (.inl rfl) rfl)) (fun _ _ => rfl)) e_int) (nomark _)) (fun _ => (eo_bind fun t37 ht37 => (eo_some (encB := (eO (eT eI))) (EJ.into (enc := (eT eI)) (e_ixT (enc := (eT eI)) (xs := every33) (EJ.ql (e_var (i := 7) rfl (.inl rfl) rfl)) e_int ht37 (fun _ _ => rfl)))))) (fun _ => (eo_some (encB := (eO (eT eI))) (EJ.of (d' := (eO (eT eI)) none) e_non rfl)))) ht38) a_nil (fun _ _ => rfl)) (fun _ _ => rfl)) ⟨((eO (eT eI)) t36), ((eO (eT eI)) t38), t39, rfl, ht39, rfl⟩ rfl (fun _ _ => rfl) (fun _ => rfl) (by decide)) rfl) (fun _ _ => rfl))) (fun hc => ?_) (fun hc => ?_)
            · exact j_ret e_bl rfl
            · refine j_bind fun t40 ht40 => ?_
              refine j_bind fun t42 ht42 => ?_
              refine j_bind fun t43 ht43 => ?_
              refine j_ifR (t_not (t_val (EJ.of (d' := eB t43) (e_callK (ok__law_is C) (Nat.le_of_ble_eq_true rfl) rfl (a_cons (EJ.of (d' := (eO (eP2 eI eI)) t40) (e_callK (ok_told_lack C) (Nat.le_of_ble_eq_true rfl) rfl (a_cons (e_var (i := 4) rfl (.inl rfl) rfl) (a_cons (e_var (i := 5) rfl (.inl rfl) rfl) a_nil (fun _ _ => rfl)) (fun _ _ => rfl)) ⟨larder12, days31, t40, rfl, ht40, rfl⟩ rfl (fun _ _ => rfl) (fun _ => rfl) (by decide)) rfl) (a_cons (EO.elim (eo_if (encB := (eO (eP2 eI eI))) (t_cmp (c_gt (e_lenT (enc := (eP2 eI eI)) (xs := pairs35) rfl C.b_len (EJ.ql (e_var (i := 8) rfl (.inl rfl) rfl)) (fun _ _ => rfl)) e_int) (nomark _)) (fun _ => (eo_bind fun t41 ht41 => (eo_some (encB := (eO (eP2 eI eI))) (EJ.into (enc := (eP2 eI eI)) (e_ixT (enc := (eP2 eI eI)) (xs := pairs35) (EJ.ql (e_var (i := 8) rfl (.inl rfl) rfl)) e_int ht41 (fun _ _ => rfl)))))) (fun _ => (eo_some (encB := (eO (eP2 eI eI))) (EJ.of (d' := (eO (eP2 eI eI)) none) e_non rfl)))) ht42) a_nil (fun _ _ => rfl)) (fun _ _ => rfl)) ⟨((eO (eP2 eI eI)) t40), ((eO (eP2 eI eI)) t42), t43, rfl, ht43, rfl⟩ rfl (fun _ _ => rfl) (fun _ => rfl) (by decide)) rfl) (fun _ _ => rfl))) (fun hc => ?_) (fun hc => ?_)
              · exact j_ret e_bl rfl
              · refine j_bind fun need45 hneed45 => ?_
                refine j_set (i := 9) ⟨nd_law, rfl, .inl rfl, .inr rfl⟩ (EJ.of (e_max2 rfl C.b_max e_int (e_sub (e_sum (ns := (List.map (fun (x44 : (Int × Int)) => x44.2) days31)) rfl C.b_sum (FJ.q (f_lc (own := [("day", 13)]) (enc := (eP2 eI eI)) (encB := eI) (xs := days31) (f := (fun (x44 : (Int × Int)) => some (some x44.2))) (IW.x (i_tup (e_var (i := 5) rfl (.inl rfl) rfl))) (fun x44 _ => cb0T (y := x44.2) (g_name (i := 13) ⟨nd_law, rfl, .inl rfl, .inr rfl⟩) (by decide) (e_ixC (i := 1) (e_var (i := 13) rfl (.inl rfl) rfl) rfl)) (compM_map _) nd_law rfl (by decide) (fun _ _ => rfl))) (fun _ _ => rfl)) (e_ixC (i := 1) (e_var (i := 4) rfl (.inl rfl) rfl) rfl)) (fun _ _ => rfl) (fun _ _ => rfl) (fun _ => rfl)) (congrArg eI (Option.some.inj hneed45))) (fun _ _ => rfl) ?_
                refine j_bind fun t50 ht50 => ?_
                refine j_ifR (TOp.elim (to_w (wo_and (to_some (t_cmp (c_gt (e_lenT (enc := (eT eI)) (xs := every33) rfl C.b_len (EJ.ql (e_var (i := 7) rfl (.inl rfl) rfl)) (fun _ _ => rfl)) e_int) (nomark _))) fun _ => (wo_and1 (to_bind fun t49 ht49 => (to_some (TOp.elim (to_w (wo_or (to_bind fun t46 ht46 => (to_some (t_cmp (c_neI (e_sumT (ns := t46) rfl C.b_sum (e_ixT (enc := (eT eI)) (xs := every33) (EJ.ql (e_var (i := 7) rfl (.inl rfl) rfl)) e_int ht46 (fun _ _ => rfl)) (fun _ _ => rfl)) (e_var (i := 9) rfl (.inl rfl) rfl)) (nomark _)))) fun _ => (wo_or1 (to_bind fun t48 ht48 => (to_some (t_cmp (c_neI (e_minL rfl C.b_min (FJ.q (f_lc (own := [("loads", 14)]) (enc := (eT eI)) (encB := eI) (xs := every33) (f := (fun (x47 : (List Int)) => some (some (List.sum x47)))) (IW.x (i_list (e_var (i := 7) rfl (.inl rfl) rfl))) (fun x47 _ => cb0T (y := (List.sum x47)) (g_name (i := 14) ⟨nd_law, rfl, .inl rfl, .inr rfl⟩) (by decide) (e_sumT (ns := x47) rfl C.b_sum (e_var (i := 14) rfl (.inl rfl) rfl) (fun _ _ => rfl))) (compM_map _) nd_law rfl (by decide) (fun _ _ => rfl))) ht48 (fun _ _ => rfl)) (e_var (i := 9) rfl (.inl rfl) rfl)) (nomark _))))))) ht49)))))) ht50) (fun hc => ?_) (fun hc => ?_)
                · exact j_ret e_bl rfl
                · refine j_bind fun r51 hr51 => ?_
                  refine j_to (γ2 := [.sh ((eL eI) script1), .sh (eI x4), .sh ((eL eI) draws7), .un, .sh ((eP2 eI eI) larder12), .sh ((eT (eP2 eI eI)) days31), .un, .sh ((eL (eT eI)) every33), .sh ((eL (eP2 eI eI)) pairs35), .sh (eI need45), .un, .un, .un, .un, .un]) rfl ?_
                  refine j_forR (enc := eI) (xs := r51) (encR := eB) (γ0 := fun (s52 : Unit) => [.sh ((eL eI) script1), .un, .sh ((eL eI) draws7), .un, .sh ((eP2 eI eI) larder12), .sh ((eT (eP2 eI eI)) days31), .un, .sh ((eL (eT eI)) every33), .un, .un, .un, .un, .un, .un, .un]) (t0 := ()) (i_range1O rfl C.b_range e_int (fun _ _ => rfl) hr51) (⟨rfl, ⟨rfl, ⟨rfl, ⟨rfl, ⟨rfl, trivial⟩⟩⟩⟩⟩) (fun s52 x53 hx53 => ⟨_, _, (g_name (i := 6) ⟨nd_law, rfl, .inl rfl, .inr rfl⟩), ?_⟩) (fun _ => rfl) (fun s52 => ?_) (fun _ _ => rfl)
                  · refine j_bind fun base55 hbase55 => ?_
                    refine j_set (i := 10) ⟨nd_law, rfl, .inl rfl, .inr rfl⟩ (EJ.of (e_tuple (k := .l) rfl C.b_tuple (FJ.q (f_lc (own := [("day", 13)]) (enc := (eP2 eI eI)) (encB := eI) (xs := days31) (f := (fun (x54 : (Int × Int)) => some (some x54.1))) (IW.x (i_tup (e_var (i := 5) rfl (.inl rfl) rfl))) (fun x54 _ => cb0T (y := x54.1) (g_name (i := 13) ⟨nd_law, rfl, .inl rfl, .inr rfl⟩) (by decide) (e_ixC (i := 0) (e_var (i := 13) rfl (.inl rfl) rfl) rfl)) (compM_map _) nd_law rfl (by decide) (fun _ _ => rfl))) (fun _ _ => rfl)) (congrArg (eT eI) (Option.some.inj hbase55))) (fun _ _ => rfl) ?_
                    refine j_ifJ (γj := fun (j60 : ((List Int))) => [.sh ((eL eI) script1), .un, .sh ((eL eI) draws7), .un, .sh ((eP2 eI eI) larder12), .sh ((eT (eP2 eI eI)) days31), .sh (eI x53), .sh ((eL (eT eI)) every33), .un, .un, .sh ((eT eI) j60), .un, .un, .un, .un]) (t_w (w_and (t_cmp (c_gt (e_lenT (enc := (eT eI)) (xs := every33) rfl C.b_len (EJ.ql (e_var (i := 7) rfl (.inl rfl) rfl)) (fun _ _ => rfl)) e_int) (nomark _)) fun _ => (w_and1 (t_cmp (c_lt (e_var (i := 6) rfl (.inl rfl) rfl) e_int) (nomark _))))) (fun hc => ?_) (fun hc => ?_) (fun j60 => ?_)
                    · refine j_bind fun t61 ht61 => ?_
                      refine j_bind fun t62 ht62 => ?_
                      refine j_bind fun base64 hbase64 => ?_
                      refine j_set (i := 10) ⟨nd_law, rfl, .inl rfl, .inr rfl⟩ (e_ixT (enc := (eT eI)) (xs := every33) (EJ.ql (e_var (i := 7) rfl (.inl rfl) rfl)) (e_modO (e_int1 rfl C.b_int (e_ixT (enc := eI) (xs := draws7) (EJ.ql (e_var (i := 2) rfl (.inl rfl) rfl)) (e_add e_int (e_var (i := 6) rfl (.inl rfl) rfl)) ht61 (fun _ _ => rfl)) (fun _ _ => rfl)) (e_lenT (enc := (eT eI)) (xs := every33) rfl C.b_len (EJ.ql (e_var (i := 7) rfl (.inl rfl) rfl)) (fun _ _ => rfl)) ht62) hbase64 (fun _ _ => rfl)) (fun _ _ => rfl) ?_
                      refine j_to (γ2 := [.sh ((eL eI) script1), .un, .sh ((eL eI) draws7), .un, .sh ((eP2 eI eI) larder12), .sh ((eT (eP2 eI eI)) days31), .sh (eI x53), .sh ((eL (eT eI)) every33), .un, .un, .sh ((eT eI) base64), .un, .un, .un, .un]) rfl ?_
                      exact j_nil (⟨rfl, ⟨rfl, ⟨rfl, ⟨rfl, ⟨rfl, ⟨rfl, ⟨rfl, trivial⟩⟩⟩⟩⟩⟩⟩)
                    · refine j_to (γ2 := [.sh ((eL eI) script1), .un, .sh ((eL eI) draws7), .un, .sh ((eP2 eI eI) larder12), .sh ((eT (eP2 eI eI)) days31), .sh (eI x53), .sh ((eL (eT eI)) every33), .un, .un, .sh ((eT eI) base55), .un, .un, .un, .un]) rfl ?_
                      exact j_nil (⟨rfl, ⟨rfl, ⟨rfl, ⟨rfl, ⟨rfl, ⟨rfl, ⟨rfl, trivial⟩⟩⟩⟩⟩⟩⟩)
                    · refine j_bind fun asked67 hasked67 => ?_
                      refine j_set (i := 11) ⟨nd_law, rfl, .inl rfl, .inr rfl⟩ (EO.elim (eo_if (encB := (eT eI)) (t_cmp (c_eqI (e_mod (e_var (i := 6) rfl (.inl rfl) rfl) e_int (by decide)) e_int) (nomark _)) (fun _ => (eo_some (encB := (eT eI)) (e_var (i := 10) rfl (.inl rfl) rfl))) (fun _ => (eo_bind fun t65 ht65 => (eo_some (encB := (eT eI)) (EJ.of (d' := (eT eI) t65) (e_callK (ok__law_bent C) (Nat.le_of_ble_eq_true rfl) rfl (a_cons (e_var (i := 10) rfl (.inl rfl) rfl) (a_cons (FJ.ej (f_slT (enc := eI) (EJ.ql (e_var (i := 2) rfl (.inl rfl) rfl)) (o_some (e_add e_int (e_mul e_int (e_var (i := 6) rfl (.inl rfl) rfl) (.inl (by decide))))) (o_some (e_add e_int (e_mul e_int (e_var (i := 6) rfl (.inl rfl) rfl) (.inl (by decide))))))) (a_cons e_int a_nil (fun _ _ => rfl)) (fun _ _ => rfl)) (fun _ _ => rfl)) ⟨j60, (cut draws7 (some ((19 : Int) + ((3 : Int) * x53))) (some ((22 : Int) + ((3 : Int) * x53)))), (4 : Int), t65, rfl, ht65, rfl⟩ rfl (fun _ _ => rfl) (fun _ => rfl) (by decide)) rfl))))) hasked67) (fun _ _ => rfl) ?_
                      refine j_bind fun t68 ht68 => ?_
                      refine j_bind fun t69 ht69 => ?_
                      refine j_bind fun t70 ht70 => ?_
                      refine j_ifR (t_not (t_val (EJ.of (d' := eB t70) (e_callK (ok__law_is C) (Nat.le_of_ble_eq_true rfl) rfl (a_cons (EJ.of (d' := eB t68) (e_callK (ok_do_loads_last C) (Nat.le_of_ble_eq_true rfl) rfl (a_cons (e_var (i := 4) rfl (.inl rfl) rfl) (a_cons (e_var (i := 5) rfl (.inl rfl) rfl) (a_cons (e_var (i := 11) rfl (.inl rfl) rfl) a_nil (fun _ _ => rfl)) (fun _ _ => rfl)) (fun _ _ => rfl)) ⟨larder12, days31, asked67, t68, rfl, ht68, rfl⟩ rfl (fun _ _ => rfl) (fun _ => rfl) (by decide)) rfl) (a_cons (EJ.of (d' := eB t69) (e_callK (ok__law_last C) (Nat.le_of_ble_eq_true rfl) rfl (a_cons (e_var (i := 4) rfl (.inl rfl) rfl) (a_cons (e_var (i := 5) rfl (.inl rfl) rfl) (a_cons (e_var (i := 11) rfl (.inl rfl) rfl) a_nil (fun _ _ => rfl)) (fun _ _ => rfl)) (fun _ _ => rfl)) ⟨larder12, days31, asked67, t69, rfl, ht69, rfl⟩ rfl (fun _ _ => rfl) (fun _ => rfl) (by decide)) rfl) a_nil (fun _ _ => rfl)) (fun _ _ => rfl)) ⟨(eB t68), (eB t69), t70, rfl, ht70, rfl⟩ rfl (fun _ _ => rfl) (fun _ => rfl) (by decide)) rfl) (fun _ _ => rfl))) (fun hc => ?_) (fun hc => ?_)
                      · exact j_ret e_bl rfl
                      · refine j_to (γ2 := [.sh ((eL eI) script1), .un, .sh ((eL eI) draws7), .un, .sh ((eP2 eI eI) larder12), .sh ((eT (eP2 eI eI)) days31), .sh (eI x53), .sh ((eL (eT eI)) every33), .un, .un, .sh ((eT eI) j60), .sh ((eT eI) asked67), .un, .un, .un]) rfl ?_
                        exact j_nil (⟨rfl, ⟨rfl, ⟨rfl, ⟨rfl, ⟨rfl, trivial⟩⟩⟩⟩⟩)
                  · refine j_bind fun t71 ht71 => ?_
                    refine j_ifR (t_not (t_val (EJ.of (d' := eB t71) (e_callK (ok__law_asked_pairs C) (Nat.le_of_ble_eq_true rfl) rfl (a_cons (e_var (i := 4) rfl (.inl rfl) rfl) (a_cons (e_var (i := 5) rfl (.inl rfl) rfl) (a_cons (FJ.ej (f_slT (enc := eI) (EJ.ql (e_var (i := 2) rfl (.inl rfl) rfl)) (o_some e_int) (o_some e_int))) a_nil (fun _ _ => rfl)) (fun _ _ => rfl)) (fun _ _ => rfl)) ⟨larder12, days31, (cut draws7 (some (40 : Int)) (some (46 : Int))), t71, rfl, ht71, rfl⟩ rfl (fun _ _ => rfl) (fun _ => rfl) (by decide)) rfl) (fun _ _ => rfl))) (fun hc => ?_) (fun hc => ?_)
                    · exact j_ret e_bl rfl
                    · refine j_to (γ2 := [.sh ((eL eI) script1), .un, .sh ((eL eI) draws7), .un, .sh ((eP2 eI eI) larder12), .sh ((eT (eP2 eI eI)) days31), .un, .sh ((eL (eT eI)) every33), .un, .un, .un, .un, .un, .un, .un]) rfl ?_
                      exact j_nil (⟨rfl, trivial⟩)
  · refine j_bind fun t72 ht72 => ?_
    exact j_ret (EJ.of (d' := eB t72) (e_callK (ok__law_great C) (Nat.le_of_ble_eq_true rfl) rfl (a_cons (e_var (i := 0) rfl (.inl rfl) rfl) a_nil (fun _ _ => rfl)) ⟨script1, t72, rfl, ht72, rfl⟩ rfl (fun _ _ => rfl) (fun _ => rfl) (by decide)) rfl) rfl
theorem ok_law (C : Gl75 K mg) : Known P w K mg base tabs 11 "law" 1 R_law := known_of (k := 10) C.d_law sc_law fun cdv B F0 ds r _ hr => by
  obtain ⟨script1, y, rfl, hy, rfl⟩ := hr
  exact (j_law C cdv B F0 script1).body hy
end
end K75

set_option autoImplicit false
set_option Elab.async false
set_option linter.all false
set_option maxRecDepth 100000
set_option maxHeartbeats 4000000
namespace K75
open PySem PySem.Spec PyProof.Rows L2 SM
theorem ok_law_fn {P : Program} {w : World} {K : PySem.W.Frag} {mg : Str → Option Value} {base : Heap} {f : Addr} {fd : FuncData} (C : Gl75 K mg) (Fn : Fun K "law" "law" s_law f fd) : FnOk P w K mg base CX0 11 f fd ["script"] (spR K [] 1 R_law) :=
  def_ok (k := 10) Fn sc_law fun cdv B F0 ds r _ hr => by
    obtain ⟨x, y, rfl, hy, rfl⟩ := hr
    exact (j_law C cdv B F0 x).body hy
theorem all_mk {l : PySem.W.OpenLaw} {w : World} {K : PySem.W.Frag} {h : Heap} {mg : Str → Option Value} {fa : Addr}
    {f0 : Addr} {od0 an0 : Option Addr} {sl0 : Array (Option Value)} {oc0 kV0 dc0 pm0 cd0 ct0 : Value}
    {f1 : Addr} {od1 an1 : Option Addr} {sl1 : Array (Option Value)} {oc1 kV1 dc1 pm1 cd1 ct1 : Value}
    {f2 : Addr} {od2 an2 : Option Addr} {sl2 : Array (Option Value)} {oc2 kV2 dc2 pm2 cd2 ct2 : Value}
    {f3 : Addr} {od3 an3 : Option Addr} {sl3 : Array (Option Value)} {oc3 kV3 dc3 pm3 cd3 ct3 : Value}
    {f4 : Addr} {od4 an4 : Option Addr} {sl4 : Array (Option Value)} {oc4 kV4 dc4 pm4 cd4 ct4 : Value}
    {f5 : Addr} {od5 an5 : Option Addr} {sl5 : Array (Option Value)} {oc5 kV5 dc5 pm5 cd5 ct5 : Value}
    {f6 : Addr} {od6 an6 : Option Addr} {sl6 : Array (Option Value)} {oc6 kV6 dc6 pm6 cd6 ct6 : Value}
    {f7 : Addr} {od7 an7 : Option Addr} {sl7 : Array (Option Value)} {oc7 kV7 dc7 pm7 cd7 ct7 : Value}
    {f8 : Addr} {od8 an8 : Option Addr} {sl8 : Array (Option Value)} {oc8 kV8 dc8 pm8 cd8 ct8 : Value}
    {f9 : Addr} {od9 an9 : Option Addr} {sl9 : Array (Option Value)} {oc9 kV9 dc9 pm9 cd9 ct9 : Value}
    {f10 : Addr} {od10 an10 : Option Addr} {sl10 : Array (Option Value)} {oc10 kV10 dc10 pm10 cd10 ct10 : Value}
    {f11 : Addr} {od11 an11 : Option Addr} {sl11 : Array (Option Value)} {oc11 kV11 dc11 pm11 cd11 ct11 : Value}
    {f12 : Addr} {od12 an12 : Option Addr} {sl12 : Array (Option Value)} {oc12 kV12 dc12 pm12 cd12 ct12 : Value}
    {f13 : Addr} {od13 an13 : Option Addr} {sl13 : Array (Option Value)} {oc13 kV13 dc13 pm13 cd13 ct13 : Value}
    {f14 : Addr} {od14 an14 : Option Addr} {sl14 : Array (Option Value)} {oc14 kV14 dc14 pm14 cd14 ct14 : Value}
    {f15 : Addr} {od15 an15 : Option Addr} {sl15 : Array (Option Value)} {oc15 kV15 dc15 pm15 cd15 ct15 : Value}
    {f16 : Addr} {od16 an16 : Option Addr} {sl16 : Array (Option Value)} {oc16 kV16 dc16 pm16 cd16 ct16 : Value}
    {f17 : Addr} {od17 an17 : Option Addr} {sl17 : Array (Option Value)} {oc17 kV17 dc17 pm17 cd17 ct17 : Value}
    (X : K.In h) (G : h.Ns mainGlobals mg) (hfa : mg "law" = some (.ref fa))
    (a0 : PySem.W.nsIn K mainGlobals "do_loads_last" = some (some (.ref f0))) (l0 : K.lookup f0 = some ⟨oc0, od0, .func (PySem.W.fnOf "do_loads_last" "do_loads_last" (defArgs s_do_loads_last) (defBody s_do_loads_last) (defScope s_do_loads_last) .none kV0 dc0 pm0 an0 cd0 ct0), sl0⟩) (c0 : PySem.W.codeIn K cd0 "do_loads_last" = true) (k0 : PySem.W.keepIn K (.ref f0) = true)
    (a1 : PySem.W.nsIn K mainGlobals "is_lack" = some (some (.ref f1))) (l1 : K.lookup f1 = some ⟨oc1, od1, .func (PySem.W.fnOf "is_lack" "is_lack" (defArgs s_is_lack) (defBody s_is_lack) (defScope s_is_lack) .none kV1 dc1 pm1 an1 cd1 ct1), sl1⟩) (c1 : PySem.W.codeIn K cd1 "is_lack" = true) (k1 : PySem.W.keepIn K (.ref f1) = true)
    (a2 : PySem.W.nsIn K mainGlobals "told_lack" = some (some (.ref f2))) (l2 : K.lookup f2 = some ⟨oc2, od2, .func (PySem.W.fnOf "told_lack" "told_lack" (defArgs s_told_lack) (defBody s_told_lack) (defScope s_told_lack) .none kV2 dc2 pm2 an2 cd2 ct2), sl2⟩) (c2 : PySem.W.codeIn K cd2 "told_lack" = true) (k2 : PySem.W.keepIn K (.ref f2) = true)
    (a3 : PySem.W.nsIn K mainGlobals "asked_stocks" = some (some (.ref f3))) (l3 : K.lookup f3 = some ⟨oc3, od3, .func (PySem.W.fnOf "asked_stocks" "asked_stocks" (defArgs s_asked_stocks) (defBody s_asked_stocks) (defScope s_asked_stocks) .none kV3 dc3 pm3 an3 cd3 ct3), sl3⟩) (c3 : PySem.W.codeIn K cd3 "asked_stocks" = true) (k3 : PySem.W.keepIn K (.ref f3) = true)
    (a4 : PySem.W.nsIn K mainGlobals "told_loads" = some (some (.ref f4))) (l4 : K.lookup f4 = some ⟨oc4, od4, .func (PySem.W.fnOf "told_loads" "told_loads" (defArgs s_told_loads) (defBody s_told_loads) (defScope s_told_loads) .none kV4 dc4 pm4 an4 cd4 ct4), sl4⟩) (c4 : PySem.W.codeIn K cd4 "told_loads" = true) (k4 : PySem.W.keepIn K (.ref f4) = true)
    (a5 : PySem.W.nsIn K mainGlobals "_law_cell" = some (some (.ref f5))) (l5 : K.lookup f5 = some ⟨oc5, od5, .func (PySem.W.fnOf "_law_cell" "_law_cell" (defArgs s__law_cell) (defBody s__law_cell) (defScope s__law_cell) .none kV5 dc5 pm5 an5 cd5 ct5), sl5⟩) (c5 : PySem.W.codeIn K cd5 "_law_cell" = true) (k5 : PySem.W.keepIn K (.ref f5) = true)
    (a6 : PySem.W.nsIn K mainGlobals "_law_draws" = some (some (.ref f6))) (l6 : K.lookup f6 = some ⟨oc6, od6, .func (PySem.W.fnOf "_law_draws" "_law_draws" (defArgs s__law_draws) (defBody s__law_draws) (defScope s__law_draws) .none kV6 dc6 pm6 an6 cd6 ct6), sl6⟩) (c6 : PySem.W.codeIn K cd6 "_law_draws" = true) (k6 : PySem.W.keepIn K (.ref f6) = true)
    (a7 : PySem.W.nsIn K mainGlobals "_law_is_integer" = some (some (.ref f7))) (l7 : K.lookup f7 = some ⟨oc7, od7, .func (PySem.W.fnOf "_law_is_integer" "_law_is_integer" (defArgs s__law_is_integer) (defBody s__law_is_integer) (defScope s__law_is_integer) .none kV7 dc7 pm7 an7 cd7 ct7), sl7⟩) (c7 : PySem.W.codeIn K cd7 "_law_is_integer" = true) (k7 : PySem.W.keepIn K (.ref f7) = true)
    (a8 : PySem.W.nsIn K mainGlobals "_law_is" = some (some (.ref f8))) (l8 : K.lookup f8 = some ⟨oc8, od8, .func (PySem.W.fnOf "_law_is" "_law_is" (defArgs s__law_is) (defBody s__law_is) (defScope s__law_is) .none kV8 dc8 pm8 an8 cd8 ct8), sl8⟩) (c8 : PySem.W.codeIn K cd8 "_law_is" = true) (k8 : PySem.W.keepIn K (.ref f8) = true)
    (a9 : PySem.W.nsIn K mainGlobals "_law_is_integers" = some (some (.ref f9))) (l9 : K.lookup f9 = some ⟨oc9, od9, .func (PySem.W.fnOf "_law_is_integers" "_law_is_integers" (defArgs s__law_is_integers) (defBody s__law_is_integers) (defScope s__law_is_integers) .none kV9 dc9 pm9 an9 cd9 ct9), sl9⟩) (c9 : PySem.W.codeIn K cd9 "_law_is_integers" = true) (k9 : PySem.W.keepIn K (.ref f9) = true)
    (a10 : PySem.W.nsIn K mainGlobals "_law_bent" = some (some (.ref f10))) (l10 : K.lookup f10 = some ⟨oc10, od10, .func (PySem.W.fnOf "_law_bent" "_law_bent" (defArgs s__law_bent) (defBody s__law_bent) (defScope s__law_bent) .none kV10 dc10 pm10 an10 cd10 ct10), sl10⟩) (c10 : PySem.W.codeIn K cd10 "_law_bent" = true) (k10 : PySem.W.keepIn K (.ref f10) = true)
    (a11 : PySem.W.nsIn K mainGlobals "_law_last" = some (some (.ref f11))) (l11 : K.lookup f11 = some ⟨oc11, od11, .func (PySem.W.fnOf "_law_last" "_law_last" (defArgs s__law_last) (defBody s__law_last) (defScope s__law_last) .none kV11 dc11 pm11 an11 cd11 ct11), sl11⟩) (c11 : PySem.W.codeIn K cd11 "_law_last" = true) (k11 : PySem.W.keepIn K (.ref f11) = true)
    (a12 : PySem.W.nsIn K mainGlobals "_law_every" = some (some (.ref f12))) (l12 : K.lookup f12 = some ⟨oc12, od12, .func (PySem.W.fnOf "_law_every" "_law_every" (defArgs s__law_every) (defBody s__law_every) (defScope s__law_every) .none kV12 dc12 pm12 an12 cd12 ct12), sl12⟩) (c12 : PySem.W.codeIn K cd12 "_law_every" = true) (k12 : PySem.W.keepIn K (.ref f12) = true)
    (a13 : PySem.W.nsIn K mainGlobals "_law_lack" = some (some (.ref f13))) (l13 : K.lookup f13 = some ⟨oc13, od13, .func (PySem.W.fnOf "_law_lack" "_law_lack" (defArgs s__law_lack) (defBody s__law_lack) (defScope s__law_lack) .none kV13 dc13 pm13 an13 cd13 ct13), sl13⟩) (c13 : PySem.W.codeIn K cd13 "_law_lack" = true) (k13 : PySem.W.keepIn K (.ref f13) = true)
    (a14 : PySem.W.nsIn K mainGlobals "_law_lacks" = some (some (.ref f14))) (l14 : K.lookup f14 = some ⟨oc14, od14, .func (PySem.W.fnOf "_law_lacks" "_law_lacks" (defArgs s__law_lacks) (defBody s__law_lacks) (defScope s__law_lacks) .none kV14 dc14 pm14 an14 cd14 ct14), sl14⟩) (c14 : PySem.W.codeIn K cd14 "_law_lacks" = true) (k14 : PySem.W.keepIn K (.ref f14) = true)
    (a15 : PySem.W.nsIn K mainGlobals "_law_asked_pairs" = some (some (.ref f15))) (l15 : K.lookup f15 = some ⟨oc15, od15, .func (PySem.W.fnOf "_law_asked_pairs" "_law_asked_pairs" (defArgs s__law_asked_pairs) (defBody s__law_asked_pairs) (defScope s__law_asked_pairs) .none kV15 dc15 pm15 an15 cd15 ct15), sl15⟩) (c15 : PySem.W.codeIn K cd15 "_law_asked_pairs" = true) (k15 : PySem.W.keepIn K (.ref f15) = true)
    (a16 : PySem.W.nsIn K mainGlobals "_law_great" = some (some (.ref f16))) (l16 : K.lookup f16 = some ⟨oc16, od16, .func (PySem.W.fnOf "_law_great" "_law_great" (defArgs s__law_great) (defBody s__law_great) (defScope s__law_great) .none kV16 dc16 pm16 an16 cd16 ct16), sl16⟩) (c16 : PySem.W.codeIn K cd16 "_law_great" = true) (k16 : PySem.W.keepIn K (.ref f16) = true)
    (a17 : PySem.W.nsIn K mainGlobals "law" = some (some (.ref f17))) (l17 : K.lookup f17 = some ⟨oc17, od17, .func (PySem.W.fnOf "law" "law" (defArgs s_law) (defBody s_law) (defScope s_law) .none kV17 dc17 pm17 an17 cd17 ct17), sl17⟩) (c17 : PySem.W.codeIn K cd17 "law" = true) (k17 : PySem.W.keepIn K (.ref f17) = true)
    (z0 : PySem.W.nsIn K mainGlobals "abs" = some none)
    (z1 : PySem.W.nsIn K mainGlobals "all" = some none)
    (z2 : PySem.W.nsIn K mainGlobals "bool" = some none)
    (z3 : PySem.W.nsIn K mainGlobals "enumerate" = some none)
    (z4 : PySem.W.nsIn K mainGlobals "int" = some none)
    (z5 : PySem.W.nsIn K mainGlobals "isinstance" = some none)
    (z6 : PySem.W.nsIn K mainGlobals "len" = some none)
    (z7 : PySem.W.nsIn K mainGlobals "max" = some none)
    (z8 : PySem.W.nsIn K mainGlobals "min" = some none)
    (z9 : PySem.W.nsIn K mainGlobals "range" = some none)
    (z10 : PySem.W.nsIn K mainGlobals "str" = some none)
    (z11 : PySem.W.nsIn K mainGlobals "sum" = some none)
    (z12 : PySem.W.nsIn K mainGlobals "tuple" = some none)
    (z13 : PySem.W.nsIn K mainGlobals "zip" = some none) :
    ∃ fd : FuncData, (∀ (s : Shared) (v : Value), BindsTo s fd ⟨[v], []⟩ [("script", v)]) ∧ ∀ base : Heap, K.In base → base.Ns mainGlobals mg → FnOk l.prog w K mg base CX0 11 fa fd ["script"] (spR K [] 1 R_law) := by
  have e := hfa.symm.trans (PySem.W.mg_of X G a17)
  cases e
  have F0 := fun_mk (st := s_do_loads_last) l0 c0 k0
  have D0 : GDef K mg "do_loads_last" s_do_loads_last ["larder", "days", "loads"] := ⟨_, _, F0, F0.binds (ps := ["larder", "days", "loads"]) (fun _ _ _ _ _ _ us hl => match us, hl with | [_, _, _], _ => rfl), PySem.W.mg_of X G a0⟩
  have F1 := fun_mk (st := s_is_lack) l1 c1 k1
  have D1 : GDef K mg "is_lack" s_is_lack ["larder", "days", "a", "b"] := ⟨_, _, F1, F1.binds (ps := ["larder", "days", "a", "b"]) (fun _ _ _ _ _ _ us hl => match us, hl with | [_, _, _, _], _ => rfl), PySem.W.mg_of X G a1⟩
  have F2 := fun_mk (st := s_told_lack) l2 c2 k2
  have D2 : GDef K mg "told_lack" s_told_lack ["larder", "days"] := ⟨_, _, F2, F2.binds (ps := ["larder", "days"]) (fun _ _ _ _ _ _ us hl => match us, hl with | [_, _], _ => rfl), PySem.W.mg_of X G a2⟩
  have F3 := fun_mk (st := s_asked_stocks) l3 c3 k3
  have D3 : GDef K mg "asked_stocks" s_asked_stocks ["days"] := ⟨_, _, F3, F3.binds (ps := ["days"]) (fun _ _ _ _ _ _ us hl => match us, hl with | [_], _ => rfl), PySem.W.mg_of X G a3⟩
  have F4 := fun_mk (st := s_told_loads) l4 c4 k4
  have D4 : GDef K mg "told_loads" s_told_loads ["larder", "days"] := ⟨_, _, F4, F4.binds (ps := ["larder", "days"]) (fun _ _ _ _ _ _ us hl => match us, hl with | [_, _], _ => rfl), PySem.W.mg_of X G a4⟩
  have F5 := fun_mk (st := s__law_cell) l5 c5 k5
  have D5 : GDef K mg "_law_cell" s__law_cell ["script", "k"] := ⟨_, _, F5, F5.binds (ps := ["script", "k"]) (fun _ _ _ _ _ _ us hl => match us, hl with | [_, _], _ => rfl), PySem.W.mg_of X G a5⟩
  have F6 := fun_mk (st := s__law_draws) l6 c6 k6
  have D6 : GDef K mg "_law_draws" s__law_draws ["cell", "count"] := ⟨_, _, F6, F6.binds (ps := ["cell", "count"]) (fun _ _ _ _ _ _ us hl => match us, hl with | [_, _], _ => rfl), PySem.W.mg_of X G a6⟩
  have F7 := fun_mk (st := s__law_is_integer) l7 c7 k7
  have D7 : GDef K mg "_law_is_integer" s__law_is_integer ["value"] := ⟨_, _, F7, F7.binds (ps := ["value"]) (fun _ _ _ _ _ _ us hl => match us, hl with | [_], _ => rfl), PySem.W.mg_of X G a7⟩
  have F8 := fun_mk (st := s__law_is) l8 c8 k8
  have D8 : GDef K mg "_law_is" s__law_is ["value", "due"] := ⟨_, _, F8, F8.binds (ps := ["value", "due"]) (fun _ _ _ _ _ _ us hl => match us, hl with | [_, _], _ => rfl), PySem.W.mg_of X G a8⟩
  have F9 := fun_mk (st := s__law_is_integers) l9 c9 k9
  have D9 : GDef K mg "_law_is_integers" s__law_is_integers ["value"] := ⟨_, _, F9, F9.binds (ps := ["value"]) (fun _ _ _ _ _ _ us hl => match us, hl with | [_], _ => rfl), PySem.W.mg_of X G a9⟩
  have F10 := fun_mk (st := s__law_bent) l10 c10 k10
  have D10 : GDef K mg "_law_bent" s__law_bent ["row", "draws", "most"] := ⟨_, _, F10, F10.binds (ps := ["row", "draws", "most"]) (fun _ _ _ _ _ _ us hl => match us, hl with | [_, _, _], _ => rfl), PySem.W.mg_of X G a10⟩
  have F11 := fun_mk (st := s__law_last) l11 c11 k11
  have D11 : GDef K mg "_law_last" s__law_last ["larder", "days", "loads"] := ⟨_, _, F11, F11.binds (ps := ["larder", "days", "loads"]) (fun _ _ _ _ _ _ us hl => match us, hl with | [_, _, _], _ => rfl), PySem.W.mg_of X G a11⟩
  have F12 := fun_mk (st := s__law_every) l12 c12 k12
  have D12 : GDef K mg "_law_every" s__law_every ["larder", "days"] := ⟨_, _, F12, F12.binds (ps := ["larder", "days"]) (fun _ _ _ _ _ _ us hl => match us, hl with | [_, _], _ => rfl), PySem.W.mg_of X G a12⟩
  have F13 := fun_mk (st := s__law_lack) l13 c13 k13
  have D13 : GDef K mg "_law_lack" s__law_lack ["larder", "days", "a", "b"] := ⟨_, _, F13, F13.binds (ps := ["larder", "days", "a", "b"]) (fun _ _ _ _ _ _ us hl => match us, hl with | [_, _, _, _], _ => rfl), PySem.W.mg_of X G a13⟩
  have F14 := fun_mk (st := s__law_lacks) l14 c14 k14
  have D14 : GDef K mg "_law_lacks" s__law_lacks ["larder", "days"] := ⟨_, _, F14, F14.binds (ps := ["larder", "days"]) (fun _ _ _ _ _ _ us hl => match us, hl with | [_, _], _ => rfl), PySem.W.mg_of X G a14⟩
  have F15 := fun_mk (st := s__law_asked_pairs) l15 c15 k15
  have D15 : GDef K mg "_law_asked_pairs" s__law_asked_pairs ["larder", "days", "draws"] := ⟨_, _, F15, F15.binds (ps := ["larder", "days", "draws"]) (fun _ _ _ _ _ _ us hl => match us, hl with | [_, _, _], _ => rfl), PySem.W.mg_of X G a15⟩
  have F16 := fun_mk (st := s__law_great) l16 c16 k16
  have D16 : GDef K mg "_law_great" s__law_great ["script"] := ⟨_, _, F16, F16.binds (ps := ["script"]) (fun _ _ _ _ _ _ us hl => match us, hl with | [_], _ => rfl), PySem.W.mg_of X G a16⟩
  have F17 := fun_mk (st := s_law) l17 c17 k17
  have D17 : GDef K mg "law" s_law ["script"] := ⟨_, _, F17, F17.binds (ps := ["script"]) (fun _ _ _ _ _ _ us hl => match us, hl with | [_], _ => rfl), PySem.W.mg_of X G a17⟩
  have C : Gl75 K mg := ⟨PySem.W.mg_none_of X G z0, PySem.W.mg_none_of X G z1, PySem.W.mg_none_of X G z2, PySem.W.mg_none_of X G z3, PySem.W.mg_none_of X G z4, PySem.W.mg_none_of X G z5, PySem.W.mg_none_of X G z6, PySem.W.mg_none_of X G z7, PySem.W.mg_none_of X G z8, PySem.W.mg_none_of X G z9, PySem.W.mg_none_of X G z10, PySem.W.mg_none_of X G z11, PySem.W.mg_none_of X G z12, PySem.W.mg_none_of X G z13, D0, D1, D2, D3, D4, D5, D6, D7, D8, D9, D10, D11, D12, D13, D14, D15, D16, D17⟩
  exact ⟨PySem.W.fnOf "law" "law" (defArgs s_law) (defBody s_law) (defScope s_law) .none kV17 dc17 pm17 an17 cd17 ct17, fun s v => .of_eq rfl, fun base _ _ => ok_law_fn C F17⟩
end K75
open PySem PySem.W PyProof.Rows
set_option maxHeartbeats 0 in
theorem PySem.Challenge.cw_slopeward_k75_whole_larders_last_or_lack_holds : PySem.Challenge.rw_slopeward_k75_whole_larders_last_or_lack.Holds := by
  w_on; o_law; k_head; (case hw => w_witness2)
  k_fill
  refine L2.walk_of (l := PySem.Challenge.rw_slopeward_k75_whole_larders_last_or_lack) (n := 63) (k := 11) (x := "script") (CX := fun _ => L2.CX0) (sp := fun w => SM.spR _ [] 1 K75.R_law) rfl (by decide) rfl ⟨rfl, by decide, by decide⟩ (fun w h Y => PySem.W.kIn_of Y) ?F (fun _ _ a nss hl ho hS => SM.sp_start ho hS ⟨nss, true, rfl, K75.law_true nss hl, rfl⟩) (fun _ _ _ _ _ h => h)
  case F =>
    intro w mg fa h KX G hmg
    refine' K75.all_mk KX G hmg ?a0 ?l0 ?c0 ?k0 ?a1 ?l1 ?c1 ?k1 ?a2 ?l2 ?c2 ?k2 ?a3 ?l3 ?c3 ?k3 ?a4 ?l4 ?c4 ?k4 ?a5 ?l5 ?c5 ?k5 ?a6 ?l6 ?c6 ?k6 ?a7 ?l7 ?c7 ?k7 ?a8 ?l8 ?c8 ?k8 ?a9 ?l9 ?c9 ?k9 ?a10 ?l10 ?c10 ?k10 ?a11 ?l11 ?c11 ?k11 ?a12 ?l12 ?c12 ?k12 ?a13 ?l13 ?c13 ?k13 ?a14 ?l14 ?c14 ?k14 ?a15 ?l15 ?c15 ?k15 ?a16 ?l16 ?c16 ?k16 ?a17 ?l17 ?c17 ?k17 ?z0 ?z1 ?z2 ?z3 ?z4 ?z5 ?z6 ?z7 ?z8 ?z9 ?z10 ?z11 ?z12 ?z13
    (case a0 => k_is)
    (case l0 => k_is)
    (case c0 => k_is)
    (case k0 => k_is)
    (case a1 => k_is)
    (case l1 => k_is)
    (case c1 => k_is)
    (case k1 => k_is)
    (case a2 => k_is)
    (case l2 => k_is)
    (case c2 => k_is)
    (case k2 => k_is)
    (case a3 => k_is)
    (case l3 => k_is)
    (case c3 => k_is)
    (case k3 => k_is)
    (case a4 => k_is)
    (case l4 => k_is)
    (case c4 => k_is)
    (case k4 => k_is)
    (case a5 => k_is)
    (case l5 => k_is)
    (case c5 => k_is)
    (case k5 => k_is)
    (case a6 => k_is)
    (case l6 => k_is)
    (case c6 => k_is)
    (case k6 => k_is)
    (case a7 => k_is)
    (case l7 => k_is)
    (case c7 => k_is)
    (case k7 => k_is)
    (case a8 => k_is)
    (case l8 => k_is)
    (case c8 => k_is)
    (case k8 => k_is)
    (case a9 => k_is)
    (case l9 => k_is)
    (case c9 => k_is)
    (case k9 => k_is)
    (case a10 => k_is)
    (case l10 => k_is)
    (case c10 => k_is)
    (case k10 => k_is)
    (case a11 => k_is)
    (case l11 => k_is)
    (case c11 => k_is)
    (case k11 => k_is)
    (case a12 => k_is)
    (case l12 => k_is)
    (case c12 => k_is)
    (case k12 => k_is)
    (case a13 => k_is)
    (case l13 => k_is)
    (case c13 => k_is)
    (case k13 => k_is)
    (case a14 => k_is)
    (case l14 => k_is)
    (case c14 => k_is)
    (case k14 => k_is)
    (case a15 => k_is)
    (case l15 => k_is)
    (case c15 => k_is)
    (case k15 => k_is)
    (case a16 => k_is)
    (case l16 => k_is)
    (case c16 => k_is)
    (case k16 => k_is)
    (case a17 => k_is)
    (case l17 => k_is)
    (case c17 => k_is)
    (case k17 => k_is)
    (case z0 => k_is)
    (case z1 => k_is)
    (case z2 => k_is)
    (case z3 => k_is)
    (case z4 => k_is)
    (case z5 => k_is)
    (case z6 => k_is)
    (case z7 => k_is)
    (case z8 => k_is)
    (case z9 => k_is)
    (case z10 => k_is)
    (case z11 => k_is)
    (case z12 => k_is)
    (case z13 => k_is)
